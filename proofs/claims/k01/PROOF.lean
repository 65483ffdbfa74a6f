import PyProof.Rows.All
import Wide.All
import OpenK.AllK
import Wide.FinOn
import HandS.ForMost
import HandS.Lambda
import HandS.HeadHook1
import HandS.HeadHook2
import HandS.HeadHook3
import HandS.Nested
import HandS.Head0
import HandS.Head1
import HandS.Head2
import HandS.HeadEnd
import HandS.EndTab
import KE.KStateDown
import KE.KNestM
import KE.KExcInit
import PySem.Challenge.RW_streamscreens_k01_limits_and_errors
import HandS.Exc
import HandS.TryOnly
import HandS.ExcOwn
import HandS.WordsExc
import HandS.Defaults
import HandS.ExcCtx
import HandS.Hot
import HandS.Flow
import HandS.TupAny
import HandS.IsInst
import HandS.Text
import HandS.Style
import HandS.MakeKw
import HandS.MakeKwOnly
import HandS.Property
import HandS.Star
import HandS.ClsMeth
import HandS.Comp
import HandS.Iter
import HandS.Zip
import KE.GoesEnum
import HandS.SetFor
import HandS.Strs
import HandS.Dict
import PyProof.ReprRoads
import Lean
import HandS.Ends
import HandS.More
import HandS.Words
import OpenK.KMeth
import KE.KOpsOwn
import HandS.SlotsOwn
import PyProof.InstEq
import PyProof.InstNe
import HandS.FStr
import KE.KUnpackStar
import PyProof.ReprLen
import PyProof.Rows.StrDigits
import HandS.TupMul
import KE.KRevSl
import KE.GoesMore
import KE.GoesZip
import HandS.NoneIn
import PyProof.RulesMatch
import HandS.ExcInit
import HandS.ExcField
import HandS.ExcIs
import KE.KTryMore
import KE.KExcIs
import PyProof.RowDictHeap
import PyProof.EqAt
import HandS.ExcValue
import KE.KSuper
import HandS.Records
import PyProof.Rows.Range3
import HandS.OwnEq
import HandS.TupLe
import HandS.NamedTupGet
import HandS.Conv
set_option Elab.async false
set_option linter.all false
set_option maxRecDepth 100000
set_option maxHeartbeats 4000000
namespace DL
open PySem PySem.Spec PyProof.Rows L2
def clsN : List Str := List.map Str.ofString ["ScreenError", "InvalidCommand", "InvalidText", "InvalidSide", "InvalidSign", "InvalidStyle", "InvalidRows", "InvalidBands", "InvalidCell", "InvalidBox",
  "InvalidNumber", "InvalidLine", "NotAStream", "NotAScreen", "FindError", "OtherSize", "Busy", "NothingToUndo", "LimitError", "TooManyCommands", "TooManyLetters", "TooManyStreams", "TooLarge",
  "Sizes", "Stream", "Screen", "Machine", "Map", "Parted", "Span", "Performance", "Terminal", "CountedTerminal", "BoundedTerminal", "CountedBoundedTerminal", "Console", "Region", "Run",
  "shifted_stretch", "shifted_row", "shows_nothing", "shows_all"]
def clsNm (i : Nat) : Str := clsN.getD i ""
inductive Dat where
  | non | bl (b : Bool) | int (i : Int) | str (s : List Nat) | tup (ds : List Dat) | lst (ds : List Dat) | ins (c : Nat) (fs : List (Nat × Dat)) | dic | fl (ds : List Dat) | cls (c : Nat) | exn (c : Nat) (fs : List (Nat × Dat))
  deriving Inhabited
abbrev Fr := PySem.W.Frag
abbrev LIM : Nat := 16777216
def sV (l : List Nat) : Str := ⟨l.toArray⟩
/-- where a def of the module stands, a method by its whole name -/
def fnA (K : Fr) (f : Str) : Addr := if f = "Performance.fill" then He.ma K (He.ga K "Performance") "fill" else if f = "Performance.slide_cells" then He.ma K (He.ga K "Performance") "slide_cells" else He.ga K f
/-- the table of code objects of the def f of the module -/
def tabA (K : Fr) (f : Str) : Addr := match K.lookup (fnA K f) with
  | some ⟨_, _, .func fd, _⟩ => (match fd.code with
    | .ref c => (match K.lookup c with
      | some ⟨_, _, .fields vs, _⟩ => (match vs.getD 11 .none with
        | .ref p => p
        | _ => 0)
      | _ => 0)
    | _ => 0)
  | _ => 0
mutual
def kOk (K : Fr) : Dat → Value → Bool
  | .non, .none => true
  | .bl b, .bool c => b == c
  | .int i, .int j _ => i == j
  | .str s, .str z _ => decide (s.length ≤ LIM) && decide (z = sV s)
  | .tup ds, .ref a => (match K.lookup a with
    | some ⟨.type c, _, .seq its _, _⟩ => decide (c = "tuple") && (decide (its.size ≤ LIM) && kOks K ds its.toList)
    | _ => false)
  | _, _ => false
def kOks (K : Fr) : List Dat → List Value → Bool
  | [], [] => true
  | d :: ds, u :: us => kOk K d u && kOks K ds us
  | _, _ => false
end
def tabV (K : Fr) (a : Addr) (tbl : List (List Nat × Dat)) : Bool := tbl.all fun q => match PySem.W.nsIn K a (sV q.1) with
  | some (some u) => kOk K q.2 u
  | _ => false
structure DefR where
  ad : Fr → Addr
  name : Str
  qual : Str
  params : Arguments
  body : List Stmt
  scope : Scope
  dfl : List He.Dv := []
  kwd : List (Str × He.Dv) := []
  sup : Option (Str × Str) := none
def DefR.dvs (K : Fr) (d : DefR) : List V := d.dfl.map (He.Dv.v K)
def DefR.kws (K : Fr) (d : DefR) : List (Str × V) := d.kwd.map fun q => (q.1, q.2.v K)
def DefR.obs (K : Fr) (d : DefR) : He.FnW := match K.lookup (d.ad K) with
  | some ⟨_, _, .func fd, _⟩ => some (fd.name, fd.qualname, fd.params, fd.body, fd.scope, fd.globals, (match d.sup with
    | none => fd.closure
    | some _ => fd.closure.map fun q => (q.1, 0)), fd.builtins)
  | _ => none
def DefR.val (d : DefR) : He.FnW := some (d.name, d.qual, d.params, .stmts d.body, d.scope, mainGlobals, (match d.sup with
  | none => []
  | some _ => [("__class__", 0)]), builtinsNs)
/-- of a method that says super(): its cell holds the class C, its code tells the file -/
def supB (K : Fr) (cl : List (Str × Addr)) (code : Value) (q : Str × Str) : Bool := (match cl with
  | [(_, cc)] => (match K.lookup cc with
    | some ⟨_, _, .cell (some (.ref D)), _⟩ => Nat.beq D (He.ga K q.1)
    | _ => false)
  | _ => false) && (match code with
  | .ref c => (match K.lookup c with
    | some ⟨_, _, .fields vs, _⟩ => (match vs[2]? with
      | some (Value.str f _) => decide (f = q.2)
      | _ => false)
    | _ => false)
  | _ => false)
def DefR.ok (K : Fr) (d : DefR) : Bool := PySem.W.keepIn K (.ref (d.ad K)) && (match K.lookup (d.ad K) with
  | some ⟨_, _, .func fd, _⟩ => PySem.W.codeIn K fd.code d.qual && (He.dflB K fd.defaults (d.dvs K) && (He.kwdB K fd.kwdefaults (d.kws K) && (match d.sup with
    | none => true
    | some q => supB K fd.closure fd.code q)))
  | _ => false)
abbrev TabR := (Fr → Addr) × List (List Nat × Dat)
def obsRT (chk : Fr → Bool) (fn : List DefR) (ts : List TabR) (K : Fr) : He.AlT := ((chk K && ((fn.all fun d => d.ok K) && ts.all fun t => tabV K (t.1 K) t.2), fn.map fun d => d.obs K), ts.map fun t => He.dicW K (t.1 K))
def valRT (fn : List DefR) (ts : List TabR) (w : World) : He.AlT := ((true, fn.map DefR.val), ts.map fun t => some (He.keysIn w.params (t.2.map fun q => sV q.1)))
/-- the code object of the def f of the module -/
def cdA (K : Fr) (f : Str) : Addr := match K.lookup (fnA K f) with
  | some ⟨_, _, .func fd, _⟩ => (match fd.code with
    | .ref c => c
    | _ => 0)
  | _ => 0
abbrev tabO : Obj := { cls := .none, data := .fields #[] }
def emptyT : Option Obj → Bool
  | some ⟨.none, none, .fields vs, sl⟩ => decide (vs.size = 0) && decide (sl.size = 0)
  | _ => false
def lamB (K : Fr) (g : Addr → Option Obj) (ls : List Str) : Bool := decide ((ls.map (tabA K)).Nodup) && ls.all fun f => (K.lookup (tabA K f)).isNone && (PySem.W.codeHdIn K (cdA K f) (tabA K f) && emptyT (g (tabA K f)))
/-- the hook: facts over a written part of the heap, the tables beside it -/
def obsL (as : (Addr → Option Obj) → List Nat) (chk : Fr → Bool) (fn : List DefR) (ts : List TabR) (ls : List Str) (g : Addr → Option Obj) : He.AlT × Bool := (obsRT chk fn ts (He.frG g (as g)), lamB (He.frG g (as g)) g ls)
/-- the addresses below n but some -/
def rngW (n : Nat) (T : List Nat) : List Nat := (List.range n).filter fun a => !(T.any fun t => Nat.beq t a)
def fldN : List Str := List.map Str.ofString ["index", "text", "value", "sign", "style", "cell", "number", "line", "found", "limit", "cells", "grid", "steps", "height", "width", "bands", "begun", "last_row", "last_column",
  "row", "column", "late", "top", "bottom", "wrap", "saved", "rows", "axis", "border", "low", "high", "columns", "wrapped", "stopped", "scrolled", "shown", "reached", "past", "working", "ceiling",
  "terminal", "lows", "tops", "region", "lanes"]
def fldNm (i : Nat) : Str := if i < 45 then fldN.getD i "" else ⟨(List.replicate (i + 100) 97).toArray⟩
end DL
set_option Elab.async false
set_option linter.all false
set_option maxRecDepth 100000
set_option maxHeartbeats 4000000
namespace DL
open PySem PySem.Spec PyProof.Rows L2
def RunA0 (r : PySem.W.OpenRow) (q : Program) (M : Nat) (loose : List PySem.Str) (w : World) : Prop :=
  ∀ os : OsState, (HandSHeadRun.endF (HandSHeadRun.stepQ (HandSHeadRun.denQ HandSHeadRun.tabQ) r.prog w) M r.prog w os).map (fun s => (HandSHeadRun.looksF r.prog (PySem.W.boot_heap w.params) s.abs, HandSHeadRun.seenQ q loose (importedModules r.prog.main.body) (fun s => PySem.W.xlAt q [] s && PySem.W.recOk r.toRowW.records s) s.abs)) = some (true, PySem.W.openGood q loose)
section
open PySem.W
/-- what a law's end wants of its row alone (no hook, no facts): asked right behind the fences, where memory is free -/
structure EndF (r : OpenRow) (q : Program) (loose : List PySem.Str) (d : DefRec) : Prop where
  e : opening r.prog = plainProg r.prog.main.scope.names
  f : ∀ s, fenceModules? r.prog s = some s
  hdef : defOf q r.name = some (d, [])
  hp : r.prog.theDef r.name = some (d.params, d.body, d.scope)
  hk : kwWritten? d.params.kwonlyargs d.params.kw_defaults = some []
  hwr : (!r.writes || r.records.isEmpty) = true
  ok : (chainsOk q && opensWell r.prog && (frees r.toRowW && r.within.isEmpty)) = true
  hb : r.prog.bare
  hw : r.toRowW.promised
  hdf : d.params.defaults = []
  nm : d.name = ("law" : PySem.Str)
theorem head_endF {r : OpenRow} {q : Program} {H : Hook} {ob : SharedT → H.α} {M : Nat} {loose : List PySem.Str} {d : DefRec} (E : EndF r q loose d) (k1 : r.wellSaid = true) (ho : ∀ s : SharedT, ob s = H.obs s.abs)
    (run : ∀ w, HandSHeadRun.RunEq r q H ob M loose w) (call : WalkO q loose (XL q []) H.says r.toRowW d [] fun f vs => PySem.call f vs) : r.Holds :=
  HandSHeadRun.head_any ho E.e E.f run E.hdef E.hp E.hk E.hwr k1 E.ok E.hb E.hw call
end
/-- what the facts ask, apart from the fences: a plain equation of the run -/
def RunB0 {β : Type} (r : PySem.W.OpenRow) (f : (Addr → Option Obj) → β) (v : β) (M : Nat) (w : World) : Prop :=
  ∀ os : OsState, (HandSHeadRun.endF (HandSHeadRun.stepQ (HandSHeadRun.denQ HandSHeadRun.tabQ) r.prog w) M r.prog w os).map (fun s => f (HandSHeadRun.getT s)) = some v
end DL
set_option Elab.async false
set_option linter.all false
set_option maxRecDepth 100000
set_option maxHeartbeats 4000000
namespace DL
open PySem PySem.Spec PyProof.Rows L2
/-- a method that can be taken as a value -/
def bmB (K : Fr) (c m : Str) : Bool := He.Fa.ok K (.meth c m) && (He.eqO (PySem.W.specialIn K (.ref (He.ma K (He.ga K c) m)) "__get__") (some (some (.builtin "function.__get__"))) && (decide (PySem.W.takesIn K (.ref (He.ma K (He.ga K c) m)) = some false) && (!PySem.W.copiedNames.contains m && PySem.W.fnIn K (He.ma K (He.ga K c) m))))
def xTl : Nat → List Value
  | 0 => [.type "ValueError", .type "Exception", .type "BaseException", .type "object"]
  | 1 => [.type "LookupError", .type "Exception", .type "BaseException", .type "object"]
  | _ => [.type "ArithmeticError", .type "Exception", .type "BaseException", .type "object"]
def xNew : Nat → String
  | 0 => "ValueError.__new__"
  | 1 => "LookupError.__new__"
  | _ => "ArithmeticError.__new__"
def xcB (K : Fr) (C : Addr) (tl : List Value) (nid : String) : Bool :=
  PySem.W.excInitIn K C tl nid && (PySem.W.excOver K C tl && (PySem.W.hasDictIn K C && (He.eqO (PySem.W.findIn K (.ref C) "__setattr__") (some (some (.builtin "object.__setattr__"))) && (decide (PySem.W.subIn K (.ref C) (.type "BaseException") = some true) && (decide (PySem.W.typeIn K (.ref C) = some (.type "type")) && PySem.W.keepIn K (.ref C))))))
def xclsB (K : Fr) (b : Nat) (C : Addr) (f : Str) (fI : Addr) : Bool :=
  xcB K C (xTl b) (xNew b) && (decide (PySem.W.takerIn K C f = some none) && (He.eqO (PySem.W.findIn K (.ref C) "__init__") (some (some (.ref fI))) && decide (PySem.W.typeIn K (.ref fI) = some (.type "function"))))
def xbB (K : Fr) (b c : Nat) : Bool := PySem.W.excIn K (He.ga K (clsNm c)) (xTl b) (xNew b) && ((match K.lookup (He.ga K (clsNm c)) with
  | some ⟨.type t, _, .cls _, _⟩ => decide (t = "type")
  | _ => false) && (decide (PySem.W.mroIn K (He.ga K (clsNm c)) (.ref (He.ga K (clsNm c))) = some true) && (decide (PySem.W.subIn K (.ref (He.ga K (clsNm c))) (.type "BaseException") = some true) && decide (PySem.W.typeIn K (.ref (He.ga K (clsNm c))) = some (.type "type")))))
def xaB (K : Fr) (c : Nat) : Bool :=
  (PySem.W.clsIn K (He.ga K (clsNm c))).isSome && (He.eqO (PySem.W.findIn K (.ref (He.ga K (clsNm c))) "__getattribute__") (some (some (.builtin "BaseException.__getattribute__"))) && (He.eqO (PySem.W.findIn K (.ref (He.ga K (clsNm c))) "__getattr__") (some none) &&
  (decide (PySem.W.subIn K (.ref (He.ga K (clsNm c))) (.type "BaseException") = some true) && (PySem.W.hasDictIn K (He.ga K (clsNm c)) && (He.eqO (PySem.W.findIn K (.ref (He.ga K (clsNm c))) "__class__") (some (some (.builtin "object.__class__"))) &&
  (He.eqO (PySem.W.specialIn K (.builtin "object.__class__") "__get__") (some (some (.builtin "getset_descriptor.__get__"))) && (decide (PySem.W.takesIn K (.builtin "object.__class__") = some true) && decide (PySem.W.mroIn K (He.ga K (clsNm c)) (.type "object") = some true))))))))
def xfB (K : Fr) (cs : List Nat) (i : Nat) : Bool := cs.all fun c => He.eqO (PySem.W.findIn K (.ref (He.ga K (clsNm c))) (fldNm i)) (some none)
def isiEB (K : Fr) (u : Value) (cc : List (Nat × Bool)) : Bool := cc.all fun p => decide (PySem.W.kitOne K (.ref (He.ga K (clsNm p.1))) u = some p.2)
end DL
set_option Elab.async false
set_option linter.all false
set_option maxRecDepth 100000
set_option maxHeartbeats 0
namespace DL.K01
open PySem PySem.Spec PyProof.Rows L2 DL
def top (i : Nat) : Stmt := PySem.Challenge.pw_streamscreens_k01_limits_and_errors.main.body.getD i (.Pass ⟨0, 0, 0, 0⟩)
def ie_Busy : List (Nat × Bool) := [(1, false), (2, false), (3, false), (4, false), (5, false), (6, false), (7, false), (8, false), (9, false), (10, false), (11, false), (12, false), (13, false), (15, false), (16, true), (17, false), (19, false), (20, false), (21, false), (22, false)]
def ie_FindError : List (Nat × Bool) := [(1, false), (2, false), (3, false), (4, false), (5, false), (6, false), (7, false), (8, false), (9, false), (10, false), (11, false), (12, false), (13, false), (15, true), (16, true), (17, true), (19, false), (20, false), (21, false), (22, false)]
def ie_InvalidBands : List (Nat × Bool) := [(1, false), (2, false), (3, false), (4, false), (5, false), (6, false), (7, true), (8, false), (9, false), (10, false), (11, false), (12, false), (13, false), (15, false), (16, false), (17, false), (19, false), (20, false), (21, false), (22, false)]
def ie_InvalidBox : List (Nat × Bool) := [(1, false), (2, false), (3, false), (4, false), (5, false), (6, false), (7, false), (8, false), (9, true), (10, false), (11, false), (12, false), (13, false), (15, false), (16, false), (17, false), (19, false), (20, false), (21, false), (22, false)]
def ie_InvalidCell : List (Nat × Bool) := [(1, false), (2, false), (3, false), (4, false), (5, false), (6, false), (7, false), (8, true), (9, false), (10, false), (11, false), (12, false), (13, false), (15, false), (16, false), (17, false), (19, false), (20, false), (21, false), (22, false)]
def ie_InvalidCommand : List (Nat × Bool) := [(1, true), (2, false), (3, false), (4, false), (5, false), (6, false), (7, false), (8, false), (9, false), (10, false), (11, false), (12, false), (13, false), (15, false), (16, false), (17, false), (19, false), (20, false), (21, false), (22, false)]
def ie_InvalidLine : List (Nat × Bool) := [(1, false), (2, false), (3, false), (4, false), (5, false), (6, false), (7, false), (8, false), (9, false), (10, false), (11, true), (12, false), (13, false), (15, false), (16, false), (17, false), (19, false), (20, false), (21, false), (22, false)]
def ie_InvalidNumber : List (Nat × Bool) := [(1, false), (2, false), (3, false), (4, false), (5, false), (6, false), (7, false), (8, false), (9, false), (10, true), (11, false), (12, false), (13, false), (15, false), (16, false), (17, false), (19, false), (20, false), (21, false), (22, false)]
def ie_InvalidRows : List (Nat × Bool) := [(1, false), (2, false), (3, false), (4, false), (5, false), (6, true), (7, false), (8, false), (9, false), (10, false), (11, false), (12, false), (13, false), (15, false), (16, false), (17, false), (19, false), (20, false), (21, false), (22, false)]
def ie_InvalidSide : List (Nat × Bool) := [(1, false), (2, false), (3, true), (4, false), (5, false), (6, false), (7, false), (8, false), (9, false), (10, false), (11, false), (12, false), (13, false), (15, false), (16, false), (17, false), (19, false), (20, false), (21, false), (22, false)]
def ie_InvalidSign : List (Nat × Bool) := [(1, false), (2, false), (3, false), (4, true), (5, false), (6, false), (7, false), (8, false), (9, false), (10, false), (11, false), (12, false), (13, false), (15, false), (16, false), (17, false), (19, false), (20, false), (21, false), (22, false)]
def ie_InvalidStyle : List (Nat × Bool) := [(1, false), (2, false), (3, false), (4, false), (5, true), (6, false), (7, false), (8, false), (9, false), (10, false), (11, false), (12, false), (13, false), (15, false), (16, false), (17, false), (19, false), (20, false), (21, false), (22, false)]
def ie_InvalidText : List (Nat × Bool) := [(1, false), (2, true), (3, false), (4, false), (5, false), (6, false), (7, false), (8, false), (9, false), (10, false), (11, false), (12, false), (13, false), (15, false), (16, false), (17, false), (19, false), (20, false), (21, false), (22, false)]
def ie_LimitError : List (Nat × Bool) := [(1, false), (2, false), (3, false), (4, false), (5, false), (6, false), (7, false), (8, false), (9, false), (10, false), (11, false), (12, false), (13, false), (15, false), (16, false), (17, false), (19, true), (20, true), (21, true), (22, true)]
def ie_NotAScreen : List (Nat × Bool) := [(1, false), (2, false), (3, false), (4, false), (5, false), (6, false), (7, false), (8, false), (9, false), (10, false), (11, false), (12, false), (13, true), (15, false), (16, false), (17, false), (19, false), (20, false), (21, false), (22, false)]
def ie_NotAStream : List (Nat × Bool) := [(1, false), (2, false), (3, false), (4, false), (5, false), (6, false), (7, false), (8, false), (9, false), (10, false), (11, false), (12, true), (13, false), (15, false), (16, false), (17, false), (19, false), (20, false), (21, false), (22, false)]
def ie_NothingToUndo : List (Nat × Bool) := [(1, false), (2, false), (3, false), (4, false), (5, false), (6, false), (7, false), (8, false), (9, false), (10, false), (11, false), (12, false), (13, false), (15, false), (16, false), (17, true), (19, false), (20, false), (21, false), (22, false)]
def ie_OtherSize : List (Nat × Bool) := [(1, false), (2, false), (3, false), (4, false), (5, false), (6, false), (7, false), (8, false), (9, false), (10, false), (11, false), (12, false), (13, false), (15, true), (16, false), (17, false), (19, false), (20, false), (21, false), (22, false)]
def ie_ScreenError : List (Nat × Bool) := [(1, true), (2, true), (3, true), (4, true), (5, true), (6, true), (7, true), (8, true), (9, true), (10, true), (11, true), (12, true), (13, true), (15, false), (16, false), (17, false), (19, false), (20, false), (21, false), (22, false)]
def ie_TooLarge : List (Nat × Bool) := [(1, false), (2, false), (3, false), (4, false), (5, false), (6, false), (7, false), (8, false), (9, false), (10, false), (11, false), (12, false), (13, false), (15, false), (16, false), (17, false), (19, false), (20, false), (21, false), (22, true)]
def ie_TooManyCommands : List (Nat × Bool) := [(1, false), (2, false), (3, false), (4, false), (5, false), (6, false), (7, false), (8, false), (9, false), (10, false), (11, false), (12, false), (13, false), (15, false), (16, false), (17, false), (19, true), (20, false), (21, false), (22, false)]
def ie_TooManyLetters : List (Nat × Bool) := [(1, false), (2, false), (3, false), (4, false), (5, false), (6, false), (7, false), (8, false), (9, false), (10, false), (11, false), (12, false), (13, false), (15, false), (16, false), (17, false), (19, false), (20, true), (21, false), (22, false)]
def ie_TooManyStreams : List (Nat × Bool) := [(1, false), (2, false), (3, false), (4, false), (5, false), (6, false), (7, false), (8, false), (9, false), (10, false), (11, false), (12, false), (13, false), (15, false), (16, false), (17, false), (19, false), (20, false), (21, true), (22, false)]
def ieb_ArithmeticError : List (Nat × Bool) := [(1, false), (2, false), (3, false), (4, false), (5, false), (6, false), (7, false), (8, false), (9, false), (10, false), (11, false), (12, false), (13, false), (15, false), (16, false), (17, false), (19, true), (20, true), (21, true), (22, true)]
def ieb_IndexError : List (Nat × Bool) := [(1, false), (2, false), (3, false), (4, false), (5, false), (6, false), (7, false), (8, false), (9, false), (10, false), (11, false), (12, false), (13, false), (15, false), (16, false), (17, false), (19, false), (20, false), (21, false), (22, false)]
def ieb_KeyError : List (Nat × Bool) := [(1, false), (2, false), (3, false), (4, false), (5, false), (6, false), (7, false), (8, false), (9, false), (10, false), (11, false), (12, false), (13, false), (15, false), (16, false), (17, false), (19, false), (20, false), (21, false), (22, false)]
def ieb_LookupError : List (Nat × Bool) := [(1, false), (2, false), (3, false), (4, false), (5, false), (6, false), (7, false), (8, false), (9, false), (10, false), (11, false), (12, false), (13, false), (15, true), (16, true), (17, true), (19, false), (20, false), (21, false), (22, false)]
def ieb_OverflowError : List (Nat × Bool) := [(1, false), (2, false), (3, false), (4, false), (5, false), (6, false), (7, false), (8, false), (9, false), (10, false), (11, false), (12, false), (13, false), (15, false), (16, false), (17, false), (19, false), (20, false), (21, false), (22, false)]
def ieb_RuntimeError : List (Nat × Bool) := [(1, false), (2, false), (3, false), (4, false), (5, false), (6, false), (7, false), (8, false), (9, false), (10, false), (11, false), (12, false), (13, false), (15, false), (16, false), (17, false), (19, false), (20, false), (21, false), (22, false)]
def ieb_TypeError : List (Nat × Bool) := [(1, false), (2, false), (3, false), (4, false), (5, false), (6, false), (7, false), (8, false), (9, false), (10, false), (11, false), (12, false), (13, false), (15, false), (16, false), (17, false), (19, false), (20, false), (21, false), (22, false)]
def ieb_ValueError : List (Nat × Bool) := [(1, true), (2, true), (3, true), (4, true), (5, true), (6, true), (7, true), (8, true), (9, true), (10, true), (11, true), (12, true), (13, true), (15, false), (16, false), (17, false), (19, false), (20, false), (21, false), (22, false)]
def ieb_ZeroDivisionError : List (Nat × Bool) := [(1, false), (2, false), (3, false), (4, false), (5, false), (6, false), (7, false), (8, false), (9, false), (10, false), (11, false), (12, false), (13, false), (15, false), (16, false), (17, false), (19, false), (20, false), (21, false), (22, false)]
abbrev s__law_draw : Stmt := top 36
def d__law_draw : DefR := ⟨fun K => He.ga K "_law_draw", "_law_draw", "_law_draw", defArgs s__law_draw, defBody s__law_draw, defScope s__law_draw, [], [], none⟩
abbrev s_InvalidCommand_init : Stmt := inClass (top 2) 0
def d_InvalidCommand_init : DefR := ⟨fun K => He.ma K (He.ga K "InvalidCommand") "__init__", "__init__", "InvalidCommand.__init__", defArgs s_InvalidCommand_init, defBody s_InvalidCommand_init, defScope s_InvalidCommand_init, [], [], none⟩
abbrev s_InvalidText_init : Stmt := inClass (top 3) 0
def d_InvalidText_init : DefR := ⟨fun K => He.ma K (He.ga K "InvalidText") "__init__", "__init__", "InvalidText.__init__", defArgs s_InvalidText_init, defBody s_InvalidText_init, defScope s_InvalidText_init, [], [], none⟩
abbrev s_InvalidSide_init : Stmt := inClass (top 4) 0
def d_InvalidSide_init : DefR := ⟨fun K => He.ma K (He.ga K "InvalidSide") "__init__", "__init__", "InvalidSide.__init__", defArgs s_InvalidSide_init, defBody s_InvalidSide_init, defScope s_InvalidSide_init, [], [], none⟩
abbrev s_InvalidSign_init : Stmt := inClass (top 5) 0
def d_InvalidSign_init : DefR := ⟨fun K => He.ma K (He.ga K "InvalidSign") "__init__", "__init__", "InvalidSign.__init__", defArgs s_InvalidSign_init, defBody s_InvalidSign_init, defScope s_InvalidSign_init, [], [], none⟩
abbrev s_InvalidStyle_init : Stmt := inClass (top 6) 0
def d_InvalidStyle_init : DefR := ⟨fun K => He.ma K (He.ga K "InvalidStyle") "__init__", "__init__", "InvalidStyle.__init__", defArgs s_InvalidStyle_init, defBody s_InvalidStyle_init, defScope s_InvalidStyle_init, [], [], none⟩
abbrev s_InvalidRows_init : Stmt := inClass (top 7) 0
def d_InvalidRows_init : DefR := ⟨fun K => He.ma K (He.ga K "InvalidRows") "__init__", "__init__", "InvalidRows.__init__", defArgs s_InvalidRows_init, defBody s_InvalidRows_init, defScope s_InvalidRows_init, [], [], none⟩
abbrev s__law_first : Stmt := top 38
def d__law_first : DefR := ⟨fun K => He.ga K "_law_first", "_law_first", "_law_first", defArgs s__law_first, defBody s__law_first, defScope s__law_first, [], [], none⟩
abbrev s_InvalidBands_init : Stmt := inClass (top 8) 0
def d_InvalidBands_init : DefR := ⟨fun K => He.ma K (He.ga K "InvalidBands") "__init__", "__init__", "InvalidBands.__init__", defArgs s_InvalidBands_init, defBody s_InvalidBands_init, defScope s_InvalidBands_init, [], [], none⟩
abbrev s_InvalidCell_init : Stmt := inClass (top 9) 0
def d_InvalidCell_init : DefR := ⟨fun K => He.ma K (He.ga K "InvalidCell") "__init__", "__init__", "InvalidCell.__init__", defArgs s_InvalidCell_init, defBody s_InvalidCell_init, defScope s_InvalidCell_init, [], [], none⟩
abbrev s_InvalidBox_init : Stmt := inClass (top 10) 0
def d_InvalidBox_init : DefR := ⟨fun K => He.ma K (He.ga K "InvalidBox") "__init__", "__init__", "InvalidBox.__init__", defArgs s_InvalidBox_init, defBody s_InvalidBox_init, defScope s_InvalidBox_init, [], [], none⟩
abbrev s_InvalidNumber_init : Stmt := inClass (top 11) 0
def d_InvalidNumber_init : DefR := ⟨fun K => He.ma K (He.ga K "InvalidNumber") "__init__", "__init__", "InvalidNumber.__init__", defArgs s_InvalidNumber_init, defBody s_InvalidNumber_init, defScope s_InvalidNumber_init, [], [], none⟩
abbrev s_InvalidLine_init : Stmt := inClass (top 12) 0
def d_InvalidLine_init : DefR := ⟨fun K => He.ma K (He.ga K "InvalidLine") "__init__", "__init__", "InvalidLine.__init__", defArgs s_InvalidLine_init, defBody s_InvalidLine_init, defScope s_InvalidLine_init, [], [], none⟩
abbrev s_NotAStream_init : Stmt := inClass (top 13) 0
def d_NotAStream_init : DefR := ⟨fun K => He.ma K (He.ga K "NotAStream") "__init__", "__init__", "NotAStream.__init__", defArgs s_NotAStream_init, defBody s_NotAStream_init, defScope s_NotAStream_init, [], [], none⟩
abbrev s_NotAScreen_init : Stmt := inClass (top 14) 0
def d_NotAScreen_init : DefR := ⟨fun K => He.ma K (He.ga K "NotAScreen") "__init__", "__init__", "NotAScreen.__init__", defArgs s_NotAScreen_init, defBody s_NotAScreen_init, defScope s_NotAScreen_init, [], [], none⟩
abbrev s__law_second : Stmt := top 39
def d__law_second : DefR := ⟨fun K => He.ga K "_law_second", "_law_second", "_law_second", defArgs s__law_second, defBody s__law_second, defScope s__law_second, [], [], none⟩
abbrev s_TooManyCommands_init : Stmt := inClass (top 20) 0
def d_TooManyCommands_init : DefR := ⟨fun K => He.ma K (He.ga K "TooManyCommands") "__init__", "__init__", "TooManyCommands.__init__", defArgs s_TooManyCommands_init, defBody s_TooManyCommands_init, defScope s_TooManyCommands_init, [], [], none⟩
abbrev s_TooManyLetters_init : Stmt := inClass (top 21) 0
def d_TooManyLetters_init : DefR := ⟨fun K => He.ma K (He.ga K "TooManyLetters") "__init__", "__init__", "TooManyLetters.__init__", defArgs s_TooManyLetters_init, defBody s_TooManyLetters_init, defScope s_TooManyLetters_init, [], [], none⟩
abbrev s_TooManyStreams_init : Stmt := inClass (top 22) 0
def d_TooManyStreams_init : DefR := ⟨fun K => He.ma K (He.ga K "TooManyStreams") "__init__", "__init__", "TooManyStreams.__init__", defArgs s_TooManyStreams_init, defBody s_TooManyStreams_init, defScope s_TooManyStreams_init, [], [], none⟩
abbrev s_TooLarge_init : Stmt := inClass (top 23) 0
def d_TooLarge_init : DefR := ⟨fun K => He.ma K (He.ga K "TooLarge") "__init__", "__init__", "TooLarge.__init__", defArgs s_TooLarge_init, defBody s_TooLarge_init, defScope s_TooLarge_init, [], [], none⟩
abbrev s__law_third : Stmt := top 40
def d__law_third : DefR := ⟨fun K => He.ga K "_law_third", "_law_third", "_law_third", defArgs s__law_third, defBody s__law_third, defScope s__law_third, [], [], none⟩
abbrev s__law_sort : Stmt := top 37
def d__law_sort : DefR := ⟨fun K => He.ga K "_law_sort", "_law_sort", "_law_sort", defArgs s__law_sort, defBody s__law_sort, defScope s__law_sort, [], [], none⟩
abbrev s__law_right : Stmt := top 41
def d__law_right : DefR := ⟨fun K => He.ga K "_law_right", "_law_right", "_law_right", defArgs s__law_right, defBody s__law_right, defScope s__law_right, [], [], none⟩
abbrev s__law_pool : Stmt := top 35
def d__law_pool : DefR := ⟨fun K => He.ga K "_law_pool", "_law_pool", "_law_pool", defArgs s__law_pool, defBody s__law_pool, defScope s__law_pool, [], [], none⟩
abbrev s__law_cell : Stmt := top 34
def d__law_cell : DefR := ⟨fun K => He.ga K "_law_cell", "_law_cell", "_law_cell", defArgs s__law_cell, defBody s__law_cell, defScope s__law_cell, [], [], none⟩
abbrev s_law : Stmt := top 42
def d_law : DefR := ⟨fun K => He.ga K "law", "law", "law", defArgs s_law, defBody s_law, defScope s_law, [], [], none⟩
def nms0 : List PySem.Str := ["ScreenError", "InvalidCommand", "InvalidText", "InvalidSide", "InvalidSign", "InvalidStyle", "InvalidRows", "InvalidBands", "InvalidCell", "InvalidBox", "InvalidNumber", "InvalidLine", "NotAStream", "NotAScreen", "FindError", "OtherSize", "Busy", "NothingToUndo", "LimitError", "TooManyCommands", "TooManyLetters", "TooManyStreams", "TooLarge", "MOST_NUMBER", "MOST_COMMANDS", "MOST_LETTERS", "MOST_LEVELS", "MOST_TIMES", "MOST_SIDE", "MOST_STYLE"]
def nms1 : List PySem.Str := ["MOST_TEXT", "MOST_STREAMS", "_law_cell", "_law_pool", "_law_draw", "_law_sort", "_law_first", "_law_second", "_law_third", "_law_right"]
def nms : List PySem.Str := nms0 ++ nms1
abbrev R : PySem.W.OpenRow := PySem.W.OpenLaw.row PySem.Challenge.rw_streamscreens_k01_limits_and_errors
end DL.K01
set_option Elab.async false
set_option linter.all false
set_option maxRecDepth 100000
set_option maxHeartbeats 0
namespace DL.K01
open PySem PySem.Spec PyProof.Rows L2 DL
def chk0 (K : Fr) : Bool := (He.Fa.ok K (.free "ArithmeticError")) && ((He.Fa.ok K (.free "IndexError")) && ((He.Fa.ok K (.free "KeyError")) && ((He.Fa.ok K (.free "LookupError")) && ((He.Fa.ok K (.free "OverflowError")) && ((He.Fa.ok K (.free "RuntimeError")) && ((He.Fa.ok K (.free "TypeError")) && ((He.Fa.ok K (.free "ValueError")) && ((He.Fa.ok K (.free "ZeroDivisionError")) && ((He.Fa.ok K (.free "abs")) && ((He.Fa.ok K (.free "all")) && ((He.Fa.ok K (.free "any")))))))))))))
def chk1 (K : Fr) : Bool := (He.Fa.ok K (.free "divmod")) && ((He.Fa.ok K (.free "int")) && ((He.Fa.ok K (.free "isinstance")) && ((He.Fa.ok K (.free "len")) && ((He.Fa.ok K (.free "list")) && ((He.Fa.ok K (.free "max")) && ((He.Fa.ok K (.free "min")) && ((He.Fa.ok K (.free "range")) && ((He.Fa.ok K (.free "repr")) && ((He.Fa.ok K (.glo "Busy")) && ((He.Fa.ok K (.glo "FindError")) && ((He.Fa.ok K (.glo "InvalidBands")))))))))))))
def chk2 (K : Fr) : Bool := (He.Fa.ok K (.glo "InvalidBox")) && ((He.Fa.ok K (.glo "InvalidCell")) && ((He.Fa.ok K (.glo "InvalidCommand")) && ((He.Fa.ok K (.glo "InvalidLine")) && ((He.Fa.ok K (.glo "InvalidNumber")) && ((He.Fa.ok K (.glo "InvalidRows")) && ((He.Fa.ok K (.glo "InvalidSide")) && ((He.Fa.ok K (.glo "InvalidSign")) && ((He.Fa.ok K (.glo "InvalidStyle")) && ((He.Fa.ok K (.glo "InvalidText")) && ((He.Fa.ok K (.glo "LimitError")) && ((He.Fa.ok K (.glo "NotAScreen")))))))))))))
def chk3 (K : Fr) : Bool := (He.Fa.ok K (.glo "NotAStream")) && ((He.Fa.ok K (.glo "NothingToUndo")) && ((He.Fa.ok K (.glo "OtherSize")) && ((He.Fa.ok K (.glo "ScreenError")) && ((He.Fa.ok K (.glo "TooLarge")) && ((He.Fa.ok K (.glo "TooManyCommands")) && ((He.Fa.ok K (.glo "TooManyLetters")) && ((He.Fa.ok K (.glo "TooManyStreams")) && ((He.Fa.ok K (.glo "_law_cell")) && ((He.Fa.ok K (.glo "_law_draw")) && ((He.Fa.ok K (.glo "_law_first")) && ((He.Fa.ok K (.glo "_law_pool")))))))))))))
def chk4 (K : Fr) : Bool := (He.Fa.ok K (.glo "_law_right")) && ((He.Fa.ok K (.glo "_law_second")) && ((He.Fa.ok K (.glo "_law_sort")) && ((He.Fa.ok K (.glo "_law_third")) && ((He.Fa.ok K (.glo "law")) && ((He.Fa.ok K (.int "MOST_COMMANDS" 20)) && ((He.Fa.ok K (.int "MOST_LETTERS" 20)) && ((He.Fa.ok K (.int "MOST_LEVELS" 4)) && ((He.Fa.ok K (.int "MOST_NUMBER" 1000000)) && ((He.Fa.ok K (.int "MOST_SIDE" 1000000000)) && ((He.Fa.ok K (.int "MOST_STREAMS" 100)) && ((He.Fa.ok K (.int "MOST_STYLE" 9)))))))))))))
def chk5 (K : Fr) : Bool := (He.Fa.ok K (.int "MOST_TEXT" 10000)) && ((He.Fa.ok K (.int "MOST_TIMES" 99)) && ((PySem.W.keepIn K (.ref (He.ga K "Busy"))) && ((PySem.W.keepIn K (.ref (He.ga K "NothingToUndo"))) && ((PySem.W.keepIn K (.ref (He.ga K "OtherSize"))) && ((xbB K 1 16) && ((xbB K 1 17) && ((xbB K 1 15) && ((xclsB K 0 (He.ga K "InvalidCommand") (fldNm 0) (He.ma K (He.ga K "InvalidCommand") "__init__")) && ((xclsB K 0 (He.ga K "InvalidText") (fldNm 1) (He.ma K (He.ga K "InvalidText") "__init__")) && ((xclsB K 0 (He.ga K "InvalidSide") (fldNm 2) (He.ma K (He.ga K "InvalidSide") "__init__")) && ((xclsB K 0 (He.ga K "InvalidSign") (fldNm 3) (He.ma K (He.ga K "InvalidSign") "__init__")))))))))))))
def chk6 (K : Fr) : Bool := (xclsB K 0 (He.ga K "InvalidStyle") (fldNm 4) (He.ma K (He.ga K "InvalidStyle") "__init__")) && ((xclsB K 0 (He.ga K "InvalidRows") (fldNm 0) (He.ma K (He.ga K "InvalidRows") "__init__")) && ((xclsB K 0 (He.ga K "InvalidBands") (fldNm 0) (He.ma K (He.ga K "InvalidBands") "__init__")) && ((xclsB K 0 (He.ga K "InvalidCell") (fldNm 5) (He.ma K (He.ga K "InvalidCell") "__init__")) && ((xclsB K 0 (He.ga K "InvalidBox") (fldNm 0) (He.ma K (He.ga K "InvalidBox") "__init__")) && ((xclsB K 0 (He.ga K "InvalidNumber") (fldNm 6) (He.ma K (He.ga K "InvalidNumber") "__init__")) && ((xclsB K 0 (He.ga K "InvalidLine") (fldNm 7) (He.ma K (He.ga K "InvalidLine") "__init__")) && ((xclsB K 0 (He.ga K "NotAStream") (fldNm 2) (He.ma K (He.ga K "NotAStream") "__init__")) && ((xclsB K 0 (He.ga K "NotAScreen") (fldNm 2) (He.ma K (He.ga K "NotAScreen") "__init__")) && ((xclsB K 2 (He.ga K "TooManyCommands") (fldNm 8) (He.ma K (He.ga K "TooManyCommands") "__init__")) && ((xclsB K 2 (He.ga K "TooManyLetters") (fldNm 8) (He.ma K (He.ga K "TooManyLetters") "__init__")) && ((xclsB K 2 (He.ga K "TooManyStreams") (fldNm 9) (He.ma K (He.ga K "TooManyStreams") "__init__")))))))))))))
def chk7 (K : Fr) : Bool := (xclsB K 2 (He.ga K "TooLarge") (fldNm 10) (He.ma K (He.ga K "TooLarge") "__init__")) && ((K.lookup sysModules).isSome && (([1, 2, 3, 4, 5, 6, 7, 8, 9, 10, 11, 12, 13, 15, 16, 17, 19, 20, 21, 22].all fun c => xaB K c) && ((xfB K [8] 5) && ((xfB K [22] 10) && ((xfB K [19, 20] 8) && ((xfB K [1, 6, 7, 9] 0) && ((xfB K [21] 9) && ((xfB K [11] 7) && ((xfB K [10] 6) && ((xfB K [4] 3) && ((xfB K [5] 4))))))))))))
def chk8 (K : Fr) : Bool := (xfB K [2] 1) && ((xfB K [3, 12, 13] 2) && ((isiEB K (.ref (He.ga K "Busy")) ie_Busy) && ((isiEB K (.ref (He.ga K "FindError")) ie_FindError) && ((isiEB K (.ref (He.ga K "InvalidBands")) ie_InvalidBands) && ((isiEB K (.ref (He.ga K "InvalidBox")) ie_InvalidBox) && ((isiEB K (.ref (He.ga K "InvalidCell")) ie_InvalidCell) && ((isiEB K (.ref (He.ga K "InvalidCommand")) ie_InvalidCommand) && ((isiEB K (.ref (He.ga K "InvalidLine")) ie_InvalidLine) && ((isiEB K (.ref (He.ga K "InvalidNumber")) ie_InvalidNumber) && ((isiEB K (.ref (He.ga K "InvalidRows")) ie_InvalidRows) && ((isiEB K (.ref (He.ga K "InvalidSide")) ie_InvalidSide))))))))))))
def chk9 (K : Fr) : Bool := (isiEB K (.ref (He.ga K "InvalidSign")) ie_InvalidSign) && ((isiEB K (.ref (He.ga K "InvalidStyle")) ie_InvalidStyle) && ((isiEB K (.ref (He.ga K "InvalidText")) ie_InvalidText) && ((isiEB K (.ref (He.ga K "LimitError")) ie_LimitError) && ((isiEB K (.ref (He.ga K "NotAScreen")) ie_NotAScreen) && ((isiEB K (.ref (He.ga K "NotAStream")) ie_NotAStream) && ((isiEB K (.ref (He.ga K "NothingToUndo")) ie_NothingToUndo) && ((isiEB K (.ref (He.ga K "OtherSize")) ie_OtherSize) && ((isiEB K (.ref (He.ga K "ScreenError")) ie_ScreenError) && ((isiEB K (.ref (He.ga K "TooLarge")) ie_TooLarge) && ((isiEB K (.ref (He.ga K "TooManyCommands")) ie_TooManyCommands) && ((isiEB K (.ref (He.ga K "TooManyLetters")) ie_TooManyLetters))))))))))))
def chk10 (K : Fr) : Bool := (isiEB K (.ref (He.ga K "TooManyStreams")) ie_TooManyStreams) && ((isiEB K (.type "ArithmeticError") ieb_ArithmeticError) && ((isiEB K (.type "IndexError") ieb_IndexError) && ((isiEB K (.type "KeyError") ieb_KeyError) && ((isiEB K (.type "LookupError") ieb_LookupError) && ((isiEB K (.type "OverflowError") ieb_OverflowError) && ((isiEB K (.type "RuntimeError") ieb_RuntimeError) && ((isiEB K (.type "TypeError") ieb_TypeError) && ((isiEB K (.type "ValueError") ieb_ValueError) && ((isiEB K (.type "ZeroDivisionError") ieb_ZeroDivisionError))))))))))
def chkX (K : Fr) : Bool := chk0 K && (chk1 K && (chk2 K && (chk3 K && (chk4 K && (chk5 K && (chk6 K && (chk7 K && (chk8 K && (chk9 K)))))))))
def chkY (K : Fr) : Bool := chk10 K
def chk (K : Fr) : Bool := chkX K && chkY K
def fns : List DefR := [d__law_draw, d_InvalidCommand_init, d_InvalidText_init, d_InvalidSide_init, d_InvalidSign_init, d_InvalidStyle_init, d_InvalidRows_init, d__law_first, d_InvalidBands_init, d_InvalidCell_init, d_InvalidBox_init, d_InvalidNumber_init, d_InvalidLine_init, d_NotAStream_init, d_NotAScreen_init, d__law_second, d_TooManyCommands_init, d_TooManyLetters_init, d_TooManyStreams_init, d_TooLarge_init, d__law_third, d__law_sort, d__law_right, d__law_pool, d__law_cell, d_law]
def tbs : List TabR := []
def lams : List PySem.Str := []
def ordL : List Nat := [3, 1, 309, 308, 284, 283, 158, 157, 196, 195, 177, 176, 44, 43, 234, 233, 215, 214, 139, 138, 82, 81, 101, 100, 120, 119, 63, 62, 333, 332, 272, 271, 253, 252, 321, 320, 297, 296, 24, 23, 410, 409, 353, 352, 372, 371, 391, 390, 433, 432, 41, 40, 60, 59, 79, 78, 98, 97, 117, 116, 136, 135, 445, 444, 155, 154, 174, 173, 193, 192, 212, 211, 231, 230, 250, 249, 269, 268, 450, 449, 350, 349, 369, 368, 388, 387, 407, 406, 455, 454, 440, 439, 460, 459, 426, 425, 419, 418, 465, 464, 307, 282, 285, 156, 194, 175, 42, 232, 213, 137, 80, 99, 118, 61, 331, 334, 270, 251, 319, 295, 22, 25, 408, 351, 370, 389] ++ rngW 0 []
def ordr (g : Addr → Option Obj) : List Nat := ordL
theorem runAF (w : World) : RunA0 R (PySem.W.view R.prog [42]) 20000 nms (w.withFollow "special-get-raises" false) := by
  intro os
  kernel_rfl
theorem runAT (w : World) : RunA0 R (PySem.W.view R.prog [42]) 20000 nms (w.withFollow "special-get-raises" true) := by
  intro os
  kernel_rfl
theorem rBZXF (w : World) : RunB0 R (obsL ordr chkX [] [] []) (valRT [] [] (w.withFollow "special-get-raises" false), true) 20000 (w.withFollow "special-get-raises" false) := by
  intro os
  kernel_rfl
theorem rBZYF (w : World) : RunB0 R (obsL ordr chkY fns tbs lams) (valRT fns tbs (w.withFollow "special-get-raises" false), true) 20000 (w.withFollow "special-get-raises" false) := by
  intro os
  kernel_rfl
theorem rBZXT (w : World) : RunB0 R (obsL ordr chkX [] [] []) (valRT [] [] (w.withFollow "special-get-raises" true), true) 20000 (w.withFollow "special-get-raises" true) := by
  intro os
  kernel_rfl
theorem rBZYT (w : World) : RunB0 R (obsL ordr chkY fns tbs lams) (valRT fns tbs (w.withFollow "special-get-raises" true), true) 20000 (w.withFollow "special-get-raises" true) := by
  intro os
  kernel_rfl
end DL.K01
set_option Elab.async false
set_option linter.all false
set_option maxRecDepth 100000
set_option maxHeartbeats 0
namespace DL.K01
open PySem PySem.Spec PyProof.Rows L2 DL
section
open PySem.W PySem.Calls
theorem ef_e : opening R.prog = plainProg R.prog.main.scope.names := by kernel_rfl
theorem ef_f : ∀ s, fenceModules? R.prog s = some s := fun s => by kernel_rfl
theorem ef_hdef : defOf (PySem.W.view R.prog [42]) R.name = some ((HandSHeadRun.topDef R.prog 42), []) := by kernel_rfl
theorem ef_hp : R.prog.theDef R.name = some ((HandSHeadRun.topDef R.prog 42).params, (HandSHeadRun.topDef R.prog 42).body, (HandSHeadRun.topDef R.prog 42).scope) := by kernel_rfl
theorem ef_hk : kwWritten? (HandSHeadRun.topDef R.prog 42).params.kwonlyargs (HandSHeadRun.topDef R.prog 42).params.kw_defaults = some [] := by kernel_rfl
theorem ef_hwr : (!R.writes || R.records.isEmpty) = true := by rfl
theorem ef_ok : (chainsOk (PySem.W.view R.prog [42]) && opensWell R.prog && (frees R.toRowW && R.within.isEmpty)) = true := by decide +kernel
theorem ef_hb : R.prog.bare := ⟨rfl, rfl, rfl, rfl, rfl, by decide +kernel⟩
theorem ef_hw : R.toRowW.promised := by w_witness2
theorem ef_hdf : (HandSHeadRun.topDef R.prog 42).params.defaults = [] := by kernel_rfl
theorem ef_nm : (HandSHeadRun.topDef R.prog 42).name = ("law" : PySem.Str) := by kernel_rfl
theorem endf : EndF R (PySem.W.view R.prog [42]) nms (HandSHeadRun.topDef R.prog 42) := ⟨ef_e, ef_f, ef_hdef, ef_hp, ef_hk, ef_hwr, ef_ok, ef_hb, ef_hw, ef_hdf, ef_nm⟩
end
end DL.K01
section
set_option Elab.async false
set_option linter.all false
set_option maxRecDepth 100000
set_option maxHeartbeats 0
open PySem PySem.W PySem.Calls PyProof.Rows
theorem DL.K01.fromRow (F : (OpenLaw.row PySem.Challenge.rw_streamscreens_k01_limits_and_errors).wellSaid = true → (OpenLaw.row PySem.Challenge.rw_streamscreens_k01_limits_and_errors).Holds) : PySem.Challenge.rw_streamscreens_k01_limits_and_errors.Holds := by
  w_on; o_law
  exact F (by assumption)
end
set_option Elab.async false
set_option linter.all false
set_option maxRecDepth 100000
set_option maxHeartbeats 4000000
namespace DL
open PySem PySem.Spec PyProof.Rows L2
abbrev St := L2.St
theorem fldNm_len : ∀ i < 45, (fldNm i).cps.size < 100 := by decide +kernel
theorem fldNm_inj1 : ∀ i < 45, ∀ j < 45, fldNm i = fldNm j → i = j := by decide +kernel
theorem fldNm_big {i : Nat} (h : ¬ i < 45) : (fldNm i).cps.size = i + 100 := by
  unfold fldNm
  rw [if_neg h]
  simp
theorem fldNm_inj {i j : Nat} (h : fldNm i = fldNm j) : i = j := by
  by_cases hi : i < 45
  · by_cases hj : j < 45
    · exact fldNm_inj1 i hi j hj h
    · have := fldNm_len i hi
      rw [h, fldNm_big hj] at this
      omega
  · by_cases hj : j < 45
    · have := fldNm_len j hj
      rw [← h, fldNm_big hi] at this
      omega
    · have := fldNm_big hi
      rw [h, fldNm_big hj] at this
      omega
/-- an exception object that was caught: its class, its dict -/
def ExH (K : Fr) (c : Nat) (dx : Option Addr) (a : Addr) : HO := .ext fun h => ∃ (oe : Obj) (vs : Array Value), h.get? a = some oe ∧ L2N.Zn (.ref (He.ga K (clsNm c))) dx oe ∧ oe.data = .fields vs
/-- .. tracked as it is, or known to the object -/
structure ExnAt (K : Fr) (F : Hp) (c : Nat) (dx : Option Addr) (a : Addr) : Prop where
  r : Rd F a (ExH K c dx a)
mutual
/-- the value v shows the datum, by the frozen heap F -/
def Rep (K : Fr) (F : Hp) : Dat → V → Prop
  | .non, v => v = .non
  | .bl b, v => v = .bl b
  | .int i, v => v = .int i
  | .str s, v => s.length ≤ LIM ∧ v = .str (sV s)
  | .tup ds, v => ds.length ≤ LIM ∧ ∃ a xs, v = .ref a ∧ SqT K F a xs ∧ Reps K F ds xs
  | .lst ds, v => ds.length ≤ LIM ∧ ∃ a xs, v = .ref a ∧ F a = some (.lst xs) ∧ Reps K F ds xs
  | .fl ds, v => ds.length ≤ LIM ∧ ∃ a xs, v = .ref a ∧ SqL K F a xs ∧ Reps K F ds xs
  | .ins c fs, v => ∃ a dx fv, v = .ref a ∧ F a = some (.ins (He.ga K (clsNm c)) dx fv) ∧ RepF K F fs fv
  | .dic, v => ∃ a, v = .ref a ∧ F a = some (.dK [])
  | .cls c, v => v = .ref (He.ga K (clsNm c))
  | .exn c fs, v => ∃ a dx, v = .ref a ∧ ExnAt K F c dx a ∧ ((fs = [] ∧ dx = none) ∨ ∃ d fv, dx = some d ∧ F d = some (.xd fv) ∧ RepF K F fs fv)
def Reps (K : Fr) (F : Hp) : List Dat → List V → Prop
  | [], xs => xs = []
  | d :: ds, xs => ∃ x r, xs = x :: r ∧ Rep K F d x ∧ Reps K F ds r
def RepF (K : Fr) (F : Hp) : List (Nat × Dat) → List (Str × V) → Prop
  | [], fv => fv = []
  | (f, d) :: fs, fv => ∃ v r, fv = (fldNm f, v) :: r ∧ Rep K F d v ∧ RepF K F fs r
end
/-- a value in a slot: data, or the n-th cell -/
inductive DV where
  | d (x : Dat) | c (n : Nat) | f (a c k n : Nat) (ds : List Dat) (ws : List V)
  deriving Inhabited
/-- the names of the functions that defs of the module make: a def whose code table is told, what it makes -/
def nestN : List (Str × Str) := List.map (fun p => (Str.ofString p.1, Str.ofString p.2)) [("Performance.fill", "change"), ("Performance.slide_cells", "change")]
def nestQ (f : Str) : Str := match nestN.lookup f with
  | some n => f ++ ".<locals>." ++ n
  | none => f ++ ".<locals>.<lambda>"
def cloQ (k : Nat) : Str := nestQ ((nestN.map (·.1)).getD k "")
/-- a cell: a list, an instance, one that was frozen -/
inductive Cel where
  | lst (ds : List Dat) | ins (c : Nat) (fs : List (Nat × DV)) | dead | tab (f : Str)
  deriving Inhabited
def Le (F F' : Hp) : Prop := ∀ a o, F a = some o → F' a = some o
theorem Le.refl (F : Hp) : Le F F := fun _ _ h => h
theorem Le.trans {F F1 F2 : Hp} (a : Le F F1) (b : Le F1 F2) : Le F F2 := fun x o h => b x o (a x o h)
theorem rd_le {F F' : Hp} (e : Le F F') {a : Addr} {u : HO} (h : Rd F a u) : Rd F' a u := by
  rcases h with h | ⟨o, h⟩
  · exact .inl (e _ _ h)
  · exact .inr ⟨o, e _ _ h⟩
theorem sqL_le {K : Fr} {F F' : Hp} (e : Le F F') {a : Addr} {xs : List V} (h : SqL K F a xs) : SqL K F' a xs := by
  rcases h with h | h
  · exact .inl (rd_le e h)
  · exact .inr h
theorem sqT_le {K : Fr} {F F' : Hp} (e : Le F F') {a : Addr} {xs : List V} (h : SqT K F a xs) : SqT K F' a xs := by
  rcases h with h | h
  · exact .inl (rd_le e h)
  · exact .inr h
mutual
theorem Rep.le {K : Fr} {F F' : Hp} (e : Le F F') : ∀ {d : Dat} {v : V}, Rep K F d v → Rep K F' d v
  | .non, _, h => h
  | .bl _, _, h => h
  | .int _, _, h => h
  | .str _, _, h => h
  | .tup ds, _, ⟨z, a, xs, h1, h2, h3⟩ => ⟨z, a, xs, h1, sqT_le e h2, Reps.le e h3⟩
  | .lst ds, _, ⟨z, a, xs, h1, h2, h3⟩ => ⟨z, a, xs, h1, e _ _ h2, Reps.le e h3⟩
  | .fl ds, _, ⟨z, a, xs, h1, h2, h3⟩ => ⟨z, a, xs, h1, sqL_le e h2, Reps.le e h3⟩
  | .ins c fs, _, ⟨a, dx, fv, h1, h2, h3⟩ => ⟨a, dx, fv, h1, e _ _ h2, RepF.le e h3⟩
  | .dic, _, ⟨a, h1, h2⟩ => ⟨a, h1, e _ _ h2⟩
  | .cls _, _, h => h
  | .exn c fs, _, ⟨a, dx, h1, h2, h3⟩ => ⟨a, dx, h1, ⟨rd_le e h2.r⟩, h3.imp id fun ⟨d, fv, q1, q2, q3⟩ => ⟨d, fv, q1, e _ _ q2, RepF.le e q3⟩⟩
theorem Reps.le {K : Fr} {F F' : Hp} (e : Le F F') : ∀ {ds : List Dat} {xs : List V}, Reps K F ds xs → Reps K F' ds xs
  | [], _, h => h
  | _ :: _, _, ⟨x, r, h1, h2, h3⟩ => ⟨x, r, h1, Rep.le e h2, Reps.le e h3⟩
theorem RepF.le {K : Fr} {F F' : Hp} (e : Le F F') : ∀ {fs : List (Nat × Dat)} {fv : List (Str × V)}, RepF K F fs fv → RepF K F' fs fv
  | [], _, h => h
  | (_, _) :: _, _, ⟨v, r, h1, h2, h3⟩ => ⟨v, r, h1, Rep.le e h2, RepF.le e h3⟩
end
theorem Reps.length {K : Fr} {F : Hp} : ∀ {ds : List Dat} {xs : List V}, Reps K F ds xs → ds.length = xs.length
  | [], _, h => by cases (show _ = [] from h); rfl
  | _ :: ds, _, ⟨x, r, h1, _, h3⟩ => by subst h1; exact congrArg Nat.succ (Reps.length h3)
theorem Reps.nil {K : Fr} {F : Hp} : Reps K F [] [] := rfl
theorem Reps.cons {K : Fr} {F : Hp} {d : Dat} {ds : List Dat} {x : V} {xs : List V} (h : Rep K F d x) (t : Reps K F ds xs) : Reps K F (d :: ds) (x :: xs) := ⟨x, xs, rfl, h, t⟩
theorem Reps.append {K : Fr} {F : Hp} : ∀ {ds es : List Dat} {xs ys : List V}, Reps K F ds xs → Reps K F es ys → Reps K F (ds ++ es) (xs ++ ys)
  | [], _, _, _, h, t => by cases (show _ = [] from h); exact t
  | _ :: _, _, _, _, ⟨x, r, h1, h2, h3⟩, t => by subst h1; exact ⟨x, _, rfl, h2, Reps.append h3 t⟩
theorem Reps.get {K : Fr} {F : Hp} : ∀ {ds : List Dat} {xs : List V} {i : Nat} {x : V}, Reps K F ds xs → xs[i]? = some x → ∃ d, ds[i]? = some d ∧ Rep K F d x
  | [], _, _, _, h, e => by cases (show _ = [] from h); simp at e
  | d :: _, _, 0, _, ⟨x, r, h1, h2, h3⟩, e => by subst h1; simp at e; subst e; exact ⟨d, rfl, h2⟩
  | d :: _, _, i + 1, _, ⟨x, r, h1, h2, h3⟩, e => by subst h1; exact Reps.get (i := i) h3 (by simpa using e)
theorem Reps.got {K : Fr} {F : Hp} {ds : List Dat} {xs : List V} {i : Nat} {d : Dat} (h : Reps K F ds xs) (e : ds[i]? = some d) : ∃ x, xs[i]? = some x ∧ Rep K F d x := by
  have hl := h.length
  have hi : i < xs.length := by
    have := (List.getElem?_eq_some_iff.mp e).1
    omega
  obtain ⟨d', e', r⟩ := Reps.get (i := i) (x := xs[i]) h (by simp [hi])
  rw [e] at e'; cases e'
  exact ⟨xs[i], by simp [hi], r⟩
theorem Reps.take {K : Fr} {F : Hp} : ∀ {ds : List Dat} {xs : List V} (n : Nat), Reps K F ds xs → Reps K F (ds.take n) (xs.take n)
  | [], _, n, h => by cases (show _ = [] from h); simp; rfl
  | _ :: _, _, 0, _ => by simp; rfl
  | _ :: _, _, n + 1, ⟨x, r, h1, h2, h3⟩ => by subst h1; exact ⟨x, _, rfl, h2, Reps.take n h3⟩
theorem Reps.drop {K : Fr} {F : Hp} : ∀ {ds : List Dat} {xs : List V} (n : Nat), Reps K F ds xs → Reps K F (ds.drop n) (xs.drop n)
  | [], _, n, h => by cases (show _ = [] from h); simp; rfl
  | _ :: _, _, 0, h => h
  | _ :: _, _, n + 1, ⟨x, r, h1, h2, h3⟩ => by subst h1; exact Reps.drop n h3
theorem Reps.set {K : Fr} {F : Hp} {d : Dat} {x : V} (q : Rep K F d x) : ∀ {ds : List Dat} {xs : List V} (n : Nat), Reps K F ds xs → Reps K F (ds.set n d) (xs.set n x)
  | [], _, n, h => by cases (show _ = [] from h); simp; rfl
  | _ :: _, _, 0, ⟨y, r, h1, h2, h3⟩ => by subst h1; exact ⟨x, _, rfl, q, h3⟩
  | _ :: _, _, n + 1, ⟨y, r, h1, h2, h3⟩ => by subst h1; exact ⟨y, _, rfl, h2, Reps.set q n h3⟩
theorem Reps.reverse {K : Fr} {F : Hp} : ∀ {ds : List Dat} {xs : List V}, Reps K F ds xs → Reps K F ds.reverse xs.reverse
  | [], _, h => by cases (show _ = [] from h); exact rfl
  | _ :: _, _, ⟨y, r, h1, h2, h3⟩ => by
    subst h1
    rw [List.reverse_cons, List.reverse_cons]
    exact (Reps.reverse h3).append (.cons h2 .nil)
def RepV (K : Fr) (F : Hp) (α : List Addr) : DV → V → Prop
  | .d x, v => Rep K F x v
  | .c n, v => ∃ a, α[n]? = some a ∧ v = .ref a
  | .f a c k n ds ws, v => v = .ref a ∧ F c = some (LamX.CodeO c (cloQ k)) ∧ ∃ p us, α[n]? = some p ∧ ws = .ref p :: us ∧ Reps K F ds us
def RepVs (K : Fr) (F : Hp) (α : List Addr) : List DV → List V → Prop
  | [], xs => xs = []
  | d :: ds, xs => ∃ x r, xs = x :: r ∧ RepV K F α d x ∧ RepVs K F α ds r
def RepVF (K : Fr) (F : Hp) (α : List Addr) : List (Nat × DV) → List (Str × V) → Prop
  | [], fv => fv = []
  | (f, d) :: fs, fv => ∃ v r, fv = (fldNm f, v) :: r ∧ RepV K F α d v ∧ RepVF K F α fs r
def CelOk (K : Fr) (F : Hp) (α : List Addr) (H : Hp) (a : Addr) : Cel → Prop
  | .lst ds => F a = none ∧ ds.length ≤ LIM ∧ ∃ xs, H a = some (.lst xs) ∧ Reps K F ds xs
  | .ins c fs => F a = none ∧ ∃ dx fv, H a = some (.ins (He.ga K (clsNm c)) dx fv) ∧ RepVF K F α fs fv
  | .dead => ∃ o, H a = some o
  | .tab f => F a = none ∧ a = tabA K f ∧ ∃ ps, H a = some (.tbl ps) ∧ TriplesOk ps.toList ∧ ∀ (pos : Pos) (cv : Value), codeAmong pos ps.toList = some cv → ∃ c, cv = .ref c ∧ F c = some (LamX.CodeO c (nestQ f))
structure Mem (K : Fr) (F H : Hp) (α : List Addr) (μ : List Cel) : Prop where
  fz : Le F H
  len : α.length = μ.length
  nd : α.Nodup
  ok : ∀ (n : Nat) (c : Cel) (a : Addr), μ[n]? = some c → α[n]? = some a → CelOk K F α H a c
structure Grow (F : Hp) (α : List Addr) (F' : Hp) (α' : List Addr) : Prop where
  f : Le F F'
  a : ∃ t, α' = α ++ t
theorem Grow.refl {F : Hp} {α : List Addr} : Grow F α F α := ⟨Le.refl F, [], by simp⟩
theorem Grow.trans {F F1 F2 : Hp} {α α1 α2 : List Addr} (a : Grow F α F1 α1) (b : Grow F1 α1 F2 α2) : Grow F α F2 α2 :=
  ⟨a.f.trans b.f, by obtain ⟨t, e⟩ := a.a; obtain ⟨u, e'⟩ := b.a; exact ⟨t ++ u, by rw [e', e, List.append_assoc]⟩⟩
theorem Grow.get {F F' : Hp} {α α' : List Addr} (g : Grow F α F' α') {n : Nat} {a : Addr} (h : α[n]? = some a) : α'[n]? = some a := by
  obtain ⟨t, e⟩ := g.a
  rw [e, List.getElem?_append_left (List.getElem?_eq_some_iff.mp h).1]
  exact h
theorem RepV.grow {K : Fr} {F F' : Hp} {α α' : List Addr} (g : Grow F α F' α') : ∀ {d : DV} {v : V}, RepV K F α d v → RepV K F' α' d v
  | .d _, _, h => Rep.le g.f h
  | .c _, _, ⟨a, h, e⟩ => ⟨a, g.get h, e⟩
  | .f _ _ _ _ _ _, _, ⟨e, h1, p, us, h2, h3, h4⟩ => ⟨e, g.f _ _ h1, p, us, g.get h2, h3, h4.le g.f⟩
theorem RepVs.grow {K : Fr} {F F' : Hp} {α α' : List Addr} (g : Grow F α F' α') : ∀ {ds : List DV} {vs : List V}, RepVs K F α ds vs → RepVs K F' α' ds vs
  | [], _, h => h
  | _ :: _, _, ⟨x, r, h1, h2, h3⟩ => ⟨x, r, h1, h2.grow g, h3.grow g⟩
theorem RepVF.grow {K : Fr} {F F' : Hp} {α α' : List Addr} (g : Grow F α F' α') : ∀ {ds : List (Nat × DV)} {vs : List (Str × V)}, RepVF K F α ds vs → RepVF K F' α' ds vs
  | [], _, h => h
  | (_, _) :: _, _, ⟨x, r, h1, h2, h3⟩ => ⟨x, r, h1, h2.grow g, h3.grow g⟩
theorem RepVs.length {K : Fr} {F : Hp} {α : List Addr} : ∀ {ds : List DV} {xs : List V}, RepVs K F α ds xs → ds.length = xs.length
  | [], _, h => by cases (show _ = [] from h); rfl
  | _ :: ds, _, ⟨x, r, h1, _, h3⟩ => by subst h1; exact congrArg Nat.succ (RepVs.length h3)
theorem RepVs.got {K : Fr} {F : Hp} {α : List Addr} : ∀ {ds : List DV} {xs : List V} {i : Nat} {d : DV}, RepVs K F α ds xs → ds[i]? = some d → ∃ x, xs[i]? = some x ∧ RepV K F α d x
  | [], _, _, _, _, e => by simp at e
  | _ :: _, _, 0, _, ⟨x, r, h1, h2, h3⟩, e => by subst h1; simp at e; subst e; exact ⟨x, rfl, h2⟩
  | _ :: _, _, i + 1, _, ⟨x, r, h1, h2, h3⟩, e => by subst h1; exact RepVs.got (i := i) h3 (by simpa using e)
section
variable {K : Fr} {F H : Hp} {α : List Addr} {μ : List Cel}
theorem CelOk.there {a : Addr} : ∀ {c : Cel}, CelOk K F α H a c → ∃ o, H a = some o
  | .lst _, ⟨_, _, xs, h, _⟩ => ⟨_, h⟩
  | .ins _ _, ⟨_, dx, fv, h, _⟩ => ⟨_, h⟩
  | .dead, h => h
  | .tab _, ⟨_, _, ps, h, _⟩ => ⟨_, h⟩
theorem Mem.fresh (m : Mem K F H α μ) {p : Addr} (hp : H p = none) : F p = none ∧ p ∉ α := by
  constructor
  · cases e : F p with
    | none => rfl
    | some o => rw [m.fz _ _ e] at hp; cases hp
  · intro hm
    obtain ⟨n, hn⟩ := List.getElem?_of_mem hm
    have hl : n < μ.length := by rw [← m.len]; exact (List.getElem?_eq_some_iff.mp hn).1
    obtain ⟨o, q⟩ := (m.ok n μ[n] p (by simp [hl]) hn).there
    rw [q] at hp; cases hp
theorem CelOk.le {F' H' : Hp} {α' : List Addr} {a : Addr} (g : Grow F α F' α') (hF : F' a = F a) (hH : ∀ o, H a = some o → H' a = some o) : ∀ {c : Cel}, CelOk K F α H a c → CelOk K F' α' H' a c
  | .lst _, ⟨h0, z, xs, h, r⟩ => ⟨by rw [hF]; exact h0, z, xs, hH _ h, r.le g.f⟩
  | .ins _ _, ⟨h0, dx, fv, h, r⟩ => ⟨by rw [hF]; exact h0, dx, fv, hH _ h, r.grow g⟩
  | .dead, ⟨o, h⟩ => ⟨o, hH _ h⟩
  | .tab _, ⟨h0, ha, ps, h, t, q⟩ => ⟨by rw [hF]; exact h0, ha, ps, hH _ h, t, fun pos cv e => let ⟨c, e1, e2⟩ := q pos cv e; ⟨c, e1, g.f _ _ e2⟩⟩
/-- a new frozen object -/
theorem Mem.laid (m : Mem K F H α μ) {p : Addr} {o : HO} (hp : H p = none) : Mem K (upd F p o) (upd H p o) α μ ∧ Grow F α (upd F p o) α := by
  obtain ⟨f0, na⟩ := m.fresh hp
  have g : Grow F α (upd F p o) α := ⟨fun a u e => by rw [upd_ne (ne_of_none e f0)]; exact e, [], by simp⟩
  refine ⟨⟨fun a u e => ?_, m.len, m.nd, fun n c a h1 h2 => ?_⟩, g⟩
  · by_cases h : a = p
    · subst h; rw [upd_same] at e ⊢; exact e
    · rw [upd_ne h] at e ⊢; exact m.fz _ _ e
  · have hne : a ≠ p := fun e => na (e ▸ List.mem_of_getElem? h2)
    exact CelOk.le g (upd_ne hne) (fun o' q => by rw [upd_ne hne]; exact q) (m.ok n c a h1 h2)
/-- the tracked heap grows by things that nobody of us knows -/
theorem Mem.more {H' : Hp} (m : Mem K F H α μ) (h : Le H H') : Mem K F H' α μ :=
  ⟨m.fz.trans h, m.len, m.nd, fun n c a h1 h2 => CelOk.le Grow.refl rfl (fun o q => h _ _ q) (m.ok n c a h1 h2)⟩
theorem Le.new {p : Addr} {o : HO} (hp : H p = none) : Le H (upd H p o) := fun a u e => by rw [upd_ne (ne_of_none e hp)]; exact e
theorem getElem?_snoc {β : Type} {l : List β} {x y : β} {n : Nat} (h : (l ++ [x])[n]? = some y) : l[n]? = some y ∨ (n = l.length ∧ y = x) := by
  by_cases hn : n < l.length
  · rw [List.getElem?_append_left hn] at h; exact .inl h
  · rw [List.getElem?_append_right (by omega)] at h
    by_cases h0 : n - l.length = 0
    · rw [h0] at h; simp at h; exact .inr ⟨by omega, h.symm⟩
    · obtain ⟨k, hk⟩ : ∃ k, n - l.length = k + 1 := ⟨n - l.length - 1, by omega⟩
      rw [hk] at h; simp at h
/-- a new cell -/
theorem Mem.cell (m : Mem K F H α μ) {p : Addr} {o : HO} {c : Cel} (hp : H p = none) (hc : CelOk K F (α ++ [p]) (upd H p o) p c) : Mem K F (upd H p o) (α ++ [p]) (μ ++ [c]) ∧ Grow F α F (α ++ [p]) := by
  obtain ⟨f0, na⟩ := m.fresh hp
  have g : Grow F α F (α ++ [p]) := ⟨Le.refl F, [p], rfl⟩
  refine ⟨⟨m.fz.trans (Le.new hp), by simp [m.len], ?_, fun n c' a h1 h2 => ?_⟩, g⟩
  · rw [List.nodup_append]
    exact ⟨m.nd, by simp, fun a ha b hb => by simp at hb; subst hb; exact fun e => na (e ▸ ha)⟩
  · rcases getElem?_snoc h2 with h2 | ⟨e, rfl⟩
    · have hn : n < μ.length := by rw [← m.len]; exact (List.getElem?_eq_some_iff.mp h2).1
      rw [List.getElem?_append_left hn] at h1
      have hne : a ≠ p := fun e => na (e ▸ List.mem_of_getElem? h2)
      exact CelOk.le g rfl (fun o' q => by rw [upd_ne hne]; exact q) (m.ok n c' a h1 h2)
    · rw [m.len] at e; subst e
      rw [List.getElem?_append_right (Nat.le_refl _)] at h1
      simp at h1; subst h1; exact hc
theorem nodup_get {β : Type} {l : List β} (h : l.Nodup) {i j : Nat} {x : β} (a : l[i]? = some x) (b : l[j]? = some x) : i = j := by
  obtain ⟨h1, e1⟩ := List.getElem?_eq_some_iff.mp a
  obtain ⟨h2, e2⟩ := List.getElem?_eq_some_iff.mp b
  exact (List.getElem_inj h).mp (e1.trans e2.symm)
/-- a cell is changed -/
theorem Mem.write (m : Mem K F H α μ) {n : Nat} {a : Addr} {o : HO} {c : Cel} (ha : α[n]? = some a) (hF : F a = none) (hc : CelOk K F α (upd H a o) a c) : Mem K F (upd H a o) α (μ.set n c) := by
  refine ⟨fun b u e => ?_, by simp [m.len], m.nd, fun k c' b h1 h2 => ?_⟩
  · rw [upd_ne (ne_of_none e hF)]; exact m.fz _ _ e
  · by_cases hk : k = n
    · subst hk
      have hl : k < μ.length := by rw [← m.len]; exact (List.getElem?_eq_some_iff.mp ha).1
      rw [List.getElem?_set_self hl] at h1
      rw [ha] at h2; cases h1; cases h2; exact hc
    · rw [List.getElem?_set_ne (Ne.symm hk)] at h1
      have hne : b ≠ a := fun e => hk (nodup_get m.nd h2 (e ▸ ha))
      exact CelOk.le Grow.refl rfl (fun o' q => by rw [upd_ne hne]; exact q) (m.ok k c' b h1 h2)
/-- a cell is frozen: its object joins F -/
theorem Mem.freeze (m : Mem K F H α μ) {n : Nat} {a : Addr} {o : HO} (ha : α[n]? = some a) (hF : F a = none) (hH : H a = some o) : Mem K (upd F a o) H α (μ.set n .dead) ∧ Grow F α (upd F a o) α := by
  have g : Grow F α (upd F a o) α := ⟨fun b u e => by rw [upd_ne (ne_of_none e hF)]; exact e, [], by simp⟩
  refine ⟨⟨fun b u e => ?_, by simp [m.len], m.nd, fun k c' b h1 h2 => ?_⟩, g⟩
  · by_cases hb : b = a
    · subst hb; rw [upd_same] at e; cases e; exact hH
    · rw [upd_ne hb] at e; exact m.fz _ _ e
  · by_cases hk : k = n
    · subst hk
      have hl : k < μ.length := by rw [← m.len]; exact (List.getElem?_eq_some_iff.mp ha).1
      rw [List.getElem?_set_self hl] at h1
      rw [ha] at h2; cases h1; cases h2; exact ⟨o, hH⟩
    · rw [List.getElem?_set_ne (Ne.symm hk)] at h1
      have hne : b ≠ a := fun e => hk (nodup_get m.nd h2 (e ▸ ha))
      exact CelOk.le g (upd_ne hne) (fun o' q => q) (m.ok k c' b h1 h2)
end
/-- an exception: its class, its attributes -/
structure Exn where
  cls : Nat
  fs : List (Nat × Dat)
def ExnRep (K : Fr) (F : Hp) (e : Exn) (cls : Value) (d : Option Addr) : Prop := cls = .ref (He.ga K (clsNm e.cls)) ∧
  (match e.fs with
   | [] => d = none
   | fs => ∃ dx fv, d = some dx ∧ F dx = some (.xd fv) ∧ RepF K F fs fv)
inductive Out (τ : Type) where
  | ok (v : τ) (μ : List Cel) | raise (e : Exn) (μ : List Cel) | stuck
def Out.bind {τ υ : Type} (o : Out τ) (f : τ → List Cel → Out υ) : Out υ := match o with
  | .ok v μ => f v μ
  | .raise e μ => .raise e μ
  | .stuck => .stuck
@[simp] theorem bind_ok {τ υ : Type} (v : τ) (μ : List Cel) (f : τ → List Cel → Out υ) : (Out.ok v μ).bind f = f v μ := rfl
@[simp] theorem bind_raise {τ υ : Type} (e : Exn) (μ : List Cel) (f : τ → List Cel → Out υ) : (Out.raise e μ : Out τ).bind f = .raise e μ := rfl
@[simp] theorem bind_stuck {τ υ : Type} (f : τ → List Cel → Out υ) : (Out.stuck : Out τ).bind f = .stuck := rfl
abbrev Rho := List (Option DV)
section
variable {K : Fr}
def Slots (K : Fr) (F : Hp) (α : List Addr) (ρ : Rho) (σ : St) : Prop := ρ.length = σ.length ∧ ∀ (i : Nat) (v : DV), ρ[i]? = some (some v) → ∃ u, σ[i]? = some (some u) ∧ RepV K F α v u
theorem Slots.grow {F F' : Hp} {α α' : List Addr} {ρ : Rho} {σ : St} (g : Grow F α F' α') (s : Slots K F α ρ σ) : Slots K F' α' ρ σ :=
  ⟨s.1, fun i v h => let ⟨u, a, b⟩ := s.2 i v h; ⟨u, a, b.grow g⟩⟩
theorem Slots.set {F : Hp} {α : List Addr} {ρ : Rho} {σ : St} (s : Slots K F α ρ σ) {v : DV} {u : V} (i : Nat) (r : RepV K F α v u) : Slots K F α (ρ.set i (some v)) (σ.set i (some u)) := by
  refine ⟨by simp [s.1], fun j w h => ?_⟩
  by_cases hj : i = j
  · subst hj
    by_cases hl : i < ρ.length
    · rw [List.getElem?_set_self hl] at h
      cases h
      exact ⟨u, by rw [List.getElem?_set_self (by rw [← s.1]; exact hl)], r⟩
    · rw [List.getElem?_eq_none (by simpa using hl)] at h; cases h
  · rw [List.getElem?_set_ne hj] at h ⊢
    exact s.2 j w h
/-- what is wanted of an outcome -/
def OutOk {τ ω : Type} (R : Hp → List Addr → τ → ω → Prop) (K : Fr) (F : Hp) (α : List Addr) (o : Out τ) (Q : ω → Hp → Prop) (W : XK) : Prop := match o with
  | .ok v μ' => ∀ u F' α' H', Grow F α F' α' → Mem K F' H' α' μ' → R F' α' v u → Q u H'
  | .raise e μ' => ∀ cls dx F' α' H', Grow F α F' α' → Mem K F' H' α' μ' → ExnRep K F' e cls dx → W cls dx H'
  | .stuck => False
theorem OutOk.grow {τ ω : Type} {R : Hp → List Addr → τ → ω → Prop} {F F' : Hp} {α α' : List Addr} {o : Out τ} {Q : ω → Hp → Prop} {W : XK} (g : Grow F α F' α') (h : OutOk R K F α o Q W) : OutOk R K F' α' o Q W := by
  cases o with
  | ok v μ => exact fun u F2 α2 H2 g2 m r => h u F2 α2 H2 (g.trans g2) m r
  | raise e μ => exact fun cls dx F2 α2 H2 g2 m r => h cls dx F2 α2 H2 (g.trans g2) m r
  | stuck => exact h
theorem OutOk.imp {τ ω : Type} {R : Hp → List Addr → τ → ω → Prop} {F : Hp} {α : List Addr} {o : Out τ} {Q Q' : ω → Hp → Prop} {W : XK} (h : OutOk R K F α o Q W) (hq : ∀ u H, Q u H → Q' u H) : OutOk R K F α o Q' W := by
  cases o with
  | ok v μ => exact fun u F2 α2 H2 g2 m r => hq _ _ (h u F2 α2 H2 g2 m r)
  | raise e μ => exact h
  | stuck => exact h
abbrev RV (K : Fr) : Hp → List Addr → DV → V → Prop := fun F α v u => RepV K F α v u
abbrev RVs (K : Fr) : Hp → List Addr → List DV → List V → Prop := fun F α v u => RepVs K F α v u
abbrev RB : Hp → List Addr → Bool → Bool → Prop := fun _ _ v u => u = v
abbrev EX := Rho → List Cel → Out DV
abbrev EXs := Rho → List Cel → Out (List DV)
abbrev TX := Rho → List Cel → Out Bool
/-- the reading of code that computes x -/
def tX {τ ω : Type} (R : Hp → List Addr → τ → ω → Prop) (K : Fr) (W : WX) (x : Rho → List Cel → Out τ) : St → Hp → (ω → Hp → Prop) → Prop :=
  fun σ H Q => ∃ F α ρ μ, Mem K F H α μ ∧ Slots K F α ρ σ ∧ OutOk R K F α (x ρ μ) Q (fun cls dx H' => W cls dx σ H')
abbrev tD (K : Fr) (W : WX) (x : EX) : TE := tX (RV K) K W x
abbrev tDs (K : Fr) (W : WX) (x : EXs) : TA := tX (RVs K) K W x
abbrev tDT (K : Fr) (W : WX) (x : TX) : TT := tX RB K W x
end
/-- the expression e computes x -/
structure DE (X : Cx) (W : WX) (e : Expr) (x : EX) : Prop where
  pe : PE X e (tD X.K W x)
structure DA (X : Cx) (W : WX) (es : List Expr) (x : EXs) : Prop where
  pa : PA X es (tDs X.K W x)
structure DT (X : Cx) (W : WX) (e : Expr) (x : TX) : Prop where
  pt : PT X e (tDT X.K W x)
theorem PE.of {X : Cx} {e : Expr} {t t' : TE} (h : PE X e t) (i : ∀ σ H Q, t' σ H Q → t σ H Q) : PE X e t' := ⟨fun pins s σ H Q I hw => h.run pins s σ H Q I (i σ H Q hw)⟩
theorem PT.of {X : Cx} {e : Expr} {t t' : TT} (h : PT X e t) (i : ∀ σ H Q, t' σ H Q → t σ H Q) : PT X e t' := ⟨fun pins s σ H Q I hw => h.run pins s σ H Q I (i σ H Q hw)⟩
theorem PA.of {X : Cx} {es : List Expr} {t t' : TA} (h : PA X es t) (i : ∀ σ H Q, t' σ H Q → t σ H Q) : PA X es t' := ⟨fun pos pins s σ H Q I hw => h.run pos pins s σ H Q I (i σ H Q hw)⟩
theorem PSs.of {X : Cx} {st : List Stmt} {t t' : TS} (h : PSs X st t) (i : ∀ D σ H, t' D σ H → t D σ H) : PSs X st t' := ⟨fun pins s σ H D I hw => h.run pins s σ H D I (i D σ H hw)⟩
theorem PS.of {X : Cx} {st : Stmt} {t t' : TS} (h : PS X st t) (i : ∀ D σ H, t' D σ H → t D σ H) : PS X st t' := ⟨fun pins s σ H D I hw => h.run pins s σ H D I (i D σ H hw)⟩
/-- one thing computed, then what follows -/
theorem tX_bind {τ υ ω χ : Type} {R : Hp → List Addr → τ → ω → Prop} {R' : Hp → List Addr → υ → χ → Prop} {K : Fr} {W : WX} {x : Rho → List Cel → Out τ} {f : Rho → τ → List Cel → Out υ} {σ : St} {H : Hp} {Q : χ → Hp → Prop} {Q' : ω → Hp → Prop}
    (h : tX R' K W (fun ρ μ => (x ρ μ).bind (f ρ)) σ H Q)
    (k : ∀ F α ρ μ v u H1, Mem K F H1 α μ → Slots K F α ρ σ → R F α v u → OutOk R' K F α (f ρ v μ) Q (fun cls dx H' => W cls dx σ H') → Q' u H1) : tX R K W x σ H Q' := by
  obtain ⟨F, α, ρ, μ, m, s, o⟩ := h
  refine ⟨F, α, ρ, μ, m, s, ?_⟩
  have o : OutOk R' K F α ((x ρ μ).bind (f ρ)) Q (fun cls dx H' => W cls dx σ H') := o
  cases e : x ρ μ with
  | ok v μ1 =>
    rw [e] at o
    intro u F1 α1 H1 g m1 r
    exact k F1 α1 ρ μ1 v u H1 m1 (s.grow g) r (OutOk.grow g o)
  | raise ex μ1 => rw [e] at o; exact o
  | stuck => rw [e] at o; exact o
theorem OutOk.bind {τ υ ω χ : Type} {R : Hp → List Addr → τ → ω → Prop} {R' : Hp → List Addr → υ → χ → Prop} {K : Fr} {F : Hp} {α : List Addr} {o : Out τ} {f : τ → List Cel → Out υ} {Q : χ → Hp → Prop} {Q' : ω → Hp → Prop} {W : XK}
    (h : OutOk R' K F α (o.bind f) Q W) (k : ∀ v u F1 α1 μ1 H1, Grow F α F1 α1 → Mem K F1 H1 α1 μ1 → R F1 α1 v u → OutOk R' K F1 α1 (f v μ1) Q W → Q' u H1) : OutOk R K F α o Q' W := by
  cases o with
  | ok v μ1 => exact fun u F1 α1 H1 g m r => k v u F1 α1 μ1 H1 g m r (OutOk.grow g h)
  | raise e μ1 => exact h
  | stuck => exact h
theorem tX_mk {τ ω : Type} {R : Hp → List Addr → τ → ω → Prop} {K : Fr} {W : WX} {x : Rho → List Cel → Out τ} {σ : St} {F H : Hp} {α : List Addr} {ρ : Rho} {μ : List Cel} {Q : ω → Hp → Prop} (m : Mem K F H α μ) (s : Slots K F α ρ σ)
    (o : OutOk R K F α (x ρ μ) Q (fun cls dx H' => W cls dx σ H')) : tX R K W x σ H Q := ⟨F, α, ρ, μ, m, s, o⟩
theorem OutOk.here {τ ω : Type} {R : Hp → List Addr → τ → ω → Prop} {K : Fr} {F H : Hp} {α : List Addr} {μ : List Cel} {v : τ} {u : ω} {Q : ω → Hp → Prop} {W : XK} (o : OutOk R K F α (.ok v μ) Q W) (m : Mem K F H α μ) (r : R F α v u) : Q u H :=
  o u F α H Grow.refl m r
end DL
set_option Elab.async false
set_option linter.all false
set_option maxRecDepth 100000
set_option maxHeartbeats 4000000
namespace DL
open PySem PySem.Spec PyProof.Rows L2
def eK (v : Dat) : EX := fun _ μ => .ok (.d v) μ
def eV (i : Nat) : EX := fun ρ μ => match ρ[i]? with
  | some (some v) => .ok v μ
  | _ => .stuck
section
variable {X : Cx} {W : WX} {pos : Pos}
theorem de_k {e : Expr} {v : Dat} {x : V} (h : PE X e (tC x)) (r : ∀ F, Rep X.K F v x) : DE X W e (eK v) := ⟨PE.of h fun σ H Q ⟨F, α, ρ, μ, m, s, o⟩ => OutOk.here (R := RV X.K) o m (r F)⟩
theorem de_int {i j} : DE X W (.Constant (.int i) j pos) (eK (.int i)) := de_k pe_int fun _ => rfl
theorem de_bl {b j} : DE X W (.Constant (.bool b) j pos) (eK (.bl b)) := de_k pe_bl fun _ => rfl
theorem de_non {j} : DE X W (.Constant .none j pos) (eK .non) := de_k pe_non fun _ => rfl
theorem de_str {x : Str} {j} {l : List Nat} (h : x = sV l := by rfl) (hl : l.length ≤ LIM := by decide) : DE X W (.Constant (.str x) j pos) (eK (.str l)) := de_k pe_str fun _ => ⟨hl, by rw [h]⟩
theorem de_v (i : Nat) {x : Str} (hN : X.N[i]? = some x := by rfl) (hv : Vis X.env.scope x := by first | exact Or.inl rfl | exact Or.inr (Or.inl rfl) | exact Or.inr (Or.inr rfl)) (hd : (x == ("__debug__" : Str)) = false := by decide)
    (hcd : (x == ("__classdict__" : Str)) = false := by decide) : DE X W (.Name x pos) (eV i) := by
  refine ⟨PE.of (pe_var hN hv hd hcd) fun σ H Q ⟨F, α, ρ, μ, m, s, o⟩ => ?_⟩
  unfold eV at o
  cases e : ρ[i]? with
  | none => rw [e] at o; exact o.elim
  | some v =>
    rw [e] at o
    cases v with
    | none => exact o.elim
    | some v =>
      obtain ⟨u, h1, r⟩ := s.2 i v e
      exact ⟨u, h1, OutOk.here (R := RV X.K) o m r⟩
/-- a global of the module -/
theorem de_g {x : Str} {v : Dat} {u : Value} {w : V} (hg : Gl X x) (hm : X.mg x = some u) (r : RelV w u) (rep : ∀ F, Rep X.K F v w) (hd : (x == ("__debug__" : Str)) = false := by decide) : DE X W (.Name x pos) (eK v) :=
  de_k (pe_glob hg hm r hd) rep
end
abbrev G2 := DV → DV → List Cel → Out DV
abbrev G1 := DV → List Cel → Out DV
abbrev Gn := List DV → List Cel → Out DV
def OpOk (K : Fr) (r : R2) (g : G2) : Prop := ∀ (F : Hp) (α : List Addr) (μ : List Cel) (H : Hp) (d1 d2 : DV) (x y : V) (Q : VK) (W : XK), Mem K F H α μ → RepV K F α d1 x → RepV K F α d2 y → OutOk (RV K) K F α (g d1 d2 μ) Q W → r x y H Q
def CaOk (K : Fr) (r : List V → Hp → VK → Prop) (g : Gn) : Prop := ∀ (F : Hp) (α : List Addr) (μ : List Cel) (H : Hp) (ds : List DV) (xs : List V) (Q : VK) (W : XK), Mem K F H α μ → RepVs K F α ds xs → OutOk (RV K) K F α (g ds μ) Q W → r xs H Q
def e1 (g : G1) (a : EX) : EX := fun ρ μ => (a ρ μ).bind fun x μ => g x μ
def e2 (g : G2) (a b : EX) : EX := fun ρ μ => (a ρ μ).bind fun x μ => (b ρ μ).bind fun y μ => g x y μ
def eN (g : Gn) (as : EXs) : EX := fun ρ μ => (as ρ μ).bind fun xs μ => g xs μ
def as0 : EXs := fun _ μ => .ok [] μ
def as1 (a : EX) (as : EXs) : EXs := fun ρ μ => (a ρ μ).bind fun x μ => (as ρ μ).bind fun xs μ => .ok (x :: xs) μ
section
variable {X : Cx} {W : WX} {pos : Pos} {a b : Expr} {xa xb : EX}
theorem pure2 {σ : St} {H : Hp} {Q : VK} {r : R2} {g : G2} {K : Fr} (ok : OpOk K r g) (h : tD K W (e2 g xa xb) σ H Q) : tD K W xa σ H fun x H1 => tD K W xb σ H1 fun y H2 => r x y H2 Q := by
  refine tX_bind (f := fun ρ x μ => (xb ρ μ).bind fun y μ => g x y μ) h fun F α ρ μ v u H1 m s rv o => ?_
  refine ⟨F, α, ρ, μ, m, s, ?_⟩
  have o2 : OutOk (RV K) K F α ((xb ρ μ).bind fun y μ => g v y μ) Q (fun cls dx H' => W cls dx σ H') := o
  cases e : xb ρ μ with
  | ok v2 μ2 =>
    rw [e] at o2
    exact fun u2 F2 α2 H2 g2 m2 r2 => ok F2 α2 μ2 H2 v v2 u u2 Q _ m2 (rv.grow g2) r2 (OutOk.grow g2 o2)
  | raise ex μ2 => rw [e] at o2; exact o2
  | stuck => rw [e] at o2; exact o2
theorem de_op {op : Operator} {r : R2} {g : G2} (ho : OpR X (binaryOp op) r) (ok : OpOk X.K r g) (ha : DE X W a xa) (hb : DE X W b xb) : DE X W (.BinOp a op b pos) (e2 g xa xb) :=
  ⟨PE.of (pe_op ho ha.pe hb.pe) fun σ H Q h => pure2 ok h⟩
theorem de_cmp {op : CmpOp} {r : R2} {g : G2} (ho : OpR X (compareOp op) r) (ok : OpOk X.K r g) (ha : DE X W a xa) (hb : DE X W b xb) (hm : behindInMarks op b = false := by first | rfl | exact nomark _) : DE X W (.Compare a [op] [b] pos) (e2 g xa xb) :=
  ⟨PE.of (pe_cmpR ho ha.pe hb.pe hm) fun σ H Q h => pure2 ok h⟩
theorem da_nil : DA X W [] as0 := ⟨PA.of pa_nil fun σ H Q ⟨F, α, ρ, μ, m, s, o⟩ => OutOk.here (R := RVs X.K) o m rfl⟩
theorem da_cons {e : Expr} {es : List Expr} {x : EX} {xs : EXs} (ha : DE X W e x) (hr : DA X W es xs) (hs : starEach (e :: es) X.env = (false, eval e X.env) :: starEach es X.env := by rfl) : DA X W (e :: es) (as1 x xs) := by
  refine ⟨PA.of (pa_cons ha.pe hr.pa hs) fun σ H Q h => ?_⟩
  refine tX_bind (f := fun ρ x μ => (xs ρ μ).bind fun y μ => .ok (x :: y) μ) h fun F α ρ μ v u H1 m s rv o => ?_
  refine ⟨F, α, ρ, μ, m, s, ?_⟩
  have o2 : OutOk (RVs X.K) X.K F α ((xs ρ μ).bind fun y μ => .ok (v :: y) μ) Q (fun cls dx H' => W cls dx σ H') := o
  cases e : xs ρ μ with
  | ok v2 μ2 =>
    rw [e] at o2
    exact fun u2 F2 α2 H2 g2 m2 r2 => OutOk.here (R := RVs X.K) (OutOk.grow g2 o2) m2 ⟨u, u2, rfl, rv.grow g2, r2⟩
  | raise ex μ2 => rw [e] at o2; exact o2
  | stuck => rw [e] at o2; exact o2
theorem pureN {es : List Expr} {xs : EXs} {σ : St} {H : Hp} {Q : VK} {r : List V → Hp → VK → Prop} {g : Gn} {K : Fr} (ok : CaOk K r g) (h : tD K W (eN g xs) σ H Q) : tDs K W xs σ H fun x H1 => r x H1 Q :=
  tX_bind (f := fun _ x μ => g x μ) h fun F α ρ μ v u H1 m s rv o => ok F α μ H1 v u Q _ m rv o
/-- a built-in function, a built-in type -/
theorem de_callB {x : Str} {p : Pos} {e : Expr} {es : List Expr} {xs : EXs} {id : String} {r : List V → Hp → VK → Prop} {g : Gn} (hc : CallR X (.builtin id) r) (ok : CaOk X.K r g) (hg : Gl X x) (hm : X.mg x = none) (hv : bootBuiltins x = some (.builtin id)) (ha : DA X W (e :: es) xs) (hn : x ≠ "__name__" := by decide) (hdb : (x == ("__debug__" : Str)) = false := by decide)
    (he : starEach (e :: es) X.env = (false, eval e X.env) :: starEach es X.env := by rfl) (hpl : (backTo pos (starEach es X.env)).any (·.1) = false := by rfl) : DE X W (.Call (.Name x p) (e :: es) [] pos) (eN g xs) :=
  ⟨PE.of (pe_callB hc hg hm hv ha.pa hn hdb he hpl) fun σ H Q h => pureN (es := es) ok h⟩
theorem de_callTy {x : Str} {p : Pos} {e : Expr} {es : List Expr} {xs : EXs} {T : String} {r : List V → Hp → VK → Prop} {g : Gn} (hc : CallR X (.type T) r) (ok : CaOk X.K r g) (hg : Gl X x) (hm : X.mg x = none) (hv : bootBuiltins x = some (.type T)) (ha : DA X W (e :: es) xs) (hn : x ≠ "__name__" := by decide) (hdb : (x == ("__debug__" : Str)) = false := by decide)
    (he : starEach (e :: es) X.env = (false, eval e X.env) :: starEach es X.env := by rfl) (hpl : (backTo pos (starEach es X.env)).any (·.1) = false := by rfl) : DE X W (.Call (.Name x p) (e :: es) [] pos) (eN g xs) :=
  ⟨PE.of (pe_callTy hc hg hm hv ha.pa hn hdb he hpl) fun σ H Q h => pureN (es := es) ok h⟩
end
def okD (v : Dat) (μ : List Cel) : Out DV := .ok (.d v) μ
def dats : List DV → Option (List Dat)
  | [] => some []
  | .d x :: r => (dats r).map (x :: ·)
  | .c _ :: _ => none
  | .f _ _ _ _ _ _ :: _ => none
def eTupD : Gn := fun xs μ => match dats xs with
  | some ds => if ds.length ≤ LIM then okD (.tup ds) μ else .stuck
  | none => .stuck
def eLstD : Gn := fun xs μ => match dats xs with
  | some ds => if ds.length ≤ LIM then okD (.lst ds) μ else .stuck
  | none => .stuck
/-- a display that makes a cell -/
def eLstC : Gn := fun xs μ => match dats xs with
  | some ds => if ds.length ≤ LIM then .ok (.c μ.length) (μ ++ [.lst ds]) else .stuck
  | none => .stuck
section
variable {K : Fr} {F H : Hp} {α : List Addr} {μ : List Cel}
theorem reps_of : ∀ {ds : List DV} {xs : List V} {es : List Dat}, RepVs K F α ds xs → dats ds = some es → Reps K F es xs
  | [], _, _, h, e => by cases e; exact h
  | .d x :: r, _, _, ⟨u, us, e1, r1, r2⟩, e => by
    subst e1
    obtain ⟨l, e2, e3⟩ := Option.map_eq_some_iff.mp (show (dats r).map (x :: ·) = some _ from e)
    subst e3
    exact ⟨u, us, rfl, r1, reps_of r2 e2⟩
  | .c _ :: _, _, _, _, e => by cases e
  | .f _ _ _ _ _ _ :: _, _, _, _, e => by cases e
theorem lim_line {n : Nat} (h : n ≤ LIM) : n ≤ sizeLine := by rw [sizeLine_eq]; exact h
theorem lim_lt {n : Nat} (h : n < LIM) : n < sizeLine := by rw [sizeLine_eq]; exact h
/-- a new tuple at p -/
theorem out_tup {ds : List Dat} {xs : List V} {Q : VK} {W : XK} (m : Mem K F H α μ) (r : Reps K F ds xs) (hz : ds.length ≤ LIM) (o : OutOk (RV K) K F α (okD (.tup ds) μ) Q W) : ∀ p, H p = none → Q (.ref p) (upd H p (.tup xs)) := fun p hp => by
  obtain ⟨m2, g⟩ := m.laid (o := .tup xs) hp
  exact o _ _ _ _ g m2 ⟨hz, p, xs, rfl, .inl (.inl upd_same), r.le g.f⟩
theorem out_lst {ds : List Dat} {xs : List V} {Q : VK} {W : XK} (m : Mem K F H α μ) (r : Reps K F ds xs) (hz : ds.length ≤ LIM) (o : OutOk (RV K) K F α (okD (.lst ds) μ) Q W) : ∀ p, H p = none → Q (.ref p) (upd H p (.lst xs)) := fun p hp => by
  obtain ⟨m2, g⟩ := m.laid (o := .lst xs) hp
  exact o _ _ _ _ g m2 ⟨hz, p, xs, rfl, upd_same, r.le g.f⟩
theorem out_cell {ds : List Dat} {xs : List V} {Q : VK} {W : XK} (m : Mem K F H α μ) (r : Reps K F ds xs) (hz : ds.length ≤ LIM) (o : OutOk (RV K) K F α (.ok (.c μ.length) (μ ++ [.lst ds])) Q W) : ∀ p, H p = none → Q (.ref p) (upd H p (.lst xs)) := fun p hp => by
  obtain ⟨m2, g⟩ := m.cell (p := p) (o := .lst xs) (c := .lst ds) hp ⟨(m.fresh hp).1, hz, xs, upd_same, r⟩
  exact o _ _ _ _ g m2 ⟨p, by rw [← m.len]; simp, rfl⟩
theorem outI {i : Int} {Q : VK} {W : XK} (m : Mem K F H α μ) (o : OutOk (RV K) K F α (okD (.int i) μ) Q W) : Q (.int i) H := OutOk.here (R := RV K) o m rfl
theorem outB {i : Bool} {Q : VK} {W : XK} (m : Mem K F H α μ) (o : OutOk (RV K) K F α (okD (.bl i) μ) Q W) : Q (.bl i) H := OutOk.here (R := RV K) o m rfl
theorem outS {l : List Nat} {Q : VK} {W : XK} (m : Mem K F H α μ) (h : l.length ≤ LIM) (o : OutOk (RV K) K F α (okD (.str l) μ) Q W) : Q (.str (sV l)) H := OutOk.here (R := RV K) o m ⟨h, rfl⟩
theorem outD {v : Dat} {u : V} {Q : VK} {W : XK} (m : Mem K F H α μ) (r : Rep K F v u) (o : OutOk (RV K) K F α (okD v μ) Q W) : Q u H := OutOk.here (R := RV K) o m r
end
section
variable {X : Cx} {W : WX} {pos : Pos} {es : List Expr} {xs : EXs}
theorem de_tup {x1} (h : DA X W es xs) : DE X W (.Tuple es x1 pos) (eN eTupD xs) := by
  refine ⟨PE.of (pe_tup h.pa) fun σ H Q hh => ?_⟩
  refine tX_bind (f := fun _ x μ => eTupD x μ) hh fun F α ρ μ v u H1 m s rv o => ?_
  unfold eTupD at o
  cases e : dats v with
  | none => rw [e] at o; exact o.elim
  | some ds =>
    rw [e] at o
    by_cases hz : ds.length ≤ LIM
    · simp only [hz, if_true] at o
      have r := reps_of rv e
      exact ⟨by rw [← r.length]; exact lim_line hz, out_tup m r hz o⟩
    · simp only [hz, if_false] at o; exact o.elim
theorem de_lst (h : DA X W es xs) : DE X W (.List es pos) (eN eLstD xs) := by
  refine ⟨PE.of (pe_lst h.pa) fun σ H Q hh => ?_⟩
  refine tX_bind (f := fun _ x μ => eLstD x μ) hh fun F α ρ μ v u H1 m s rv o => ?_
  unfold eLstD at o
  cases e : dats v with
  | none => rw [e] at o; exact o.elim
  | some ds =>
    rw [e] at o
    by_cases hz : ds.length ≤ LIM
    · simp only [hz, if_true] at o
      have r := reps_of rv e
      exact ⟨by rw [← r.length]; exact lim_line hz, out_lst m r hz o⟩
    · simp only [hz, if_false] at o; exact o.elim
theorem de_lstC (h : DA X W es xs) : DE X W (.List es pos) (eN eLstC xs) := by
  refine ⟨PE.of (pe_lst h.pa) fun σ H Q hh => ?_⟩
  refine tX_bind (f := fun _ x μ => eLstC x μ) hh fun F α ρ μ v u H1 m s rv o => ?_
  unfold eLstC at o
  cases e : dats v with
  | none => rw [e] at o; exact o.elim
  | some ds =>
    rw [e] at o
    by_cases hz : ds.length ≤ LIM
    · simp only [hz, if_true] at o
      have r := reps_of rv e
      exact ⟨by rw [← r.length]; exact lim_line hz, out_cell m r hz o⟩
    · simp only [hz, if_false] at o; exact o.elim
end
def addD : G2
  | .d (.int a), .d (.int b), μ => okD (.int (a + b)) μ
  | .d (.str a), .d (.str b), μ => if a.length + b.length ≤ LIM then okD (.str (a ++ b)) μ else .stuck
  | .d (.tup a), .d (.tup b), μ => if a.length + b.length ≤ LIM then okD (.tup (a ++ b)) μ else .stuck
  | .d (.lst a), .d (.lst b), μ => if a.length + b.length ≤ LIM then okD (.lst (a ++ b)) μ else .stuck
  | .c n, .d (.lst b), μ => (match μ[n]? with
    | some (.lst a) => if a.length + b.length ≤ LIM then okD (.lst (a ++ b)) μ else .stuck
    | _ => .stuck)
  | .d (.lst a), .c n, μ => (match μ[n]? with
    | some (.lst b) => if a.length + b.length ≤ LIM then okD (.lst (a ++ b)) μ else .stuck
    | _ => .stuck)
  | _, _, _ => .stuck
def subD : G2
  | .d (.int a), .d (.int b), μ => okD (.int (a - b)) μ
  | _, _, _ => .stuck
/-- a factor's bound, so written that it does not run on an open number -/
def mulT1 : Int → Bool
  | .ofNat n => Nat.ble n 18446744073709551615
  | .negSucc n => Nat.ble n 18446744073709551614
theorem mulT1_iff (a : Int) : mulT1 a = true ↔ (-(2 ^ 64) < a ∧ a < 2 ^ 64) := by
  cases a with
  | ofNat n =>
    show Nat.ble n 18446744073709551615 = true ↔ _
    rw [Nat.ble_eq]
    have : Int.ofNat n = (n : Int) := rfl
    rw [this]
    omega
  | negSucc n =>
    show Nat.ble n 18446744073709551614 = true ↔ _
    rw [Nat.ble_eq]
    omega
def mulP (a b : Int) : Prop := (-(2 ^ 64) < a ∧ a < 2 ^ 64) ∨ (-(2 ^ 64) < b ∧ b < 2 ^ 64)
theorem mulP_iff (a b : Int) : (mulT1 a || mulT1 b) = true ↔ mulP a b := by
  rw [Bool.or_eq_true, mulT1_iff, mulT1_iff]
  rfl
instance (a b : Int) : Decidable (mulP a b) := decidable_of_iff _ (mulP_iff a b)
def mulD : G2
  | .d (.int a), .d (.int b), μ => if mulP a b then okD (.int (a * b)) μ else .stuck
  | .d (.lst a), .d (.int b), μ => if -(2 ^ 62) < b ∧ b < 2 ^ 62 ∧ a.length * b.toNat ≤ LIM then okD (.lst (List.replicate b.toNat a).flatten) μ else .stuck
  | _, _, _ => .stuck
def fdivD : G2
  | .d (.int a), .d (.int b), μ => if 0 < b ∧ b < 1073741824 then okD (.int (a / b)) μ else .stuck
  | _, _, _ => .stuck
def modD : G2
  | .d (.int a), .d (.int b), μ => if 0 < b then okD (.int (a % b)) μ else .stuck
  | _, _, _ => .stuck
def powD : G2
  | .d (.int a), .d (.int b), μ => if 0 ≤ b ∧ b ≤ 1000000 ∧ a.natAbs < 2 ^ 64 then okD (.int (a ^ b.toNat)) μ else .stuck
  | _, _, _ => .stuck
def negD : G1
  | .d (.int a), μ => okD (.int (-a)) μ
  | _, _ => .stuck
section
variable {X : Cx} {K : Fr}
theorem sV_app (a b : List Nat) : sV a ++ sV b = sV (a ++ b) := by
  show Str.append _ _ = _
  unfold Str.append sV
  simp
theorem sV_len (a : List Nat) : (sV a).length = a.length := by
  unfold sV Str.length
  simp
theorem sV_cps (a : List Nat) : (sV a).cps.toList = a := by
  unfold sV
  simp
theorem sV_inj {a b : List Nat} (h : sV a = sV b) : a = b := by
  have := congrArg (fun s : Str => s.cps.toList) h
  simpa [sV_cps] using this
theorem op_addX : OpR X (binaryOp .Add) (fun x y H Q => (rI0 (fun i j => .int (i + j))) x y H Q ∨ (∃ i j, x = .str i ∧ y = .str j ∧ i.length + j.length ≤ sizeLine ∧ Q (.str (i ++ j)) H) ∨ rCatA X.K x y H Q ∨ rCat x y H Q) := op_add.or (op_add_str.or (op_catA.or op_cat))
theorem reps_nil_iff {F : Hp} {ds : List Dat} {xs : List V} (h : Reps K F ds xs) : xs = [] ↔ ds = [] := by
  have := h.length
  constructor
  · intro e; subst e; simpa using this
  · intro e; subst e; cases xs with
    | nil => rfl
    | cons _ _ => simp at this
theorem ok_add : OpOk K (fun x y H Q => (rI0 (fun i j => .int (i + j))) x y H Q ∨ (∃ i j, x = .str i ∧ y = .str j ∧ i.length + j.length ≤ sizeLine ∧ Q (.str (i ++ j)) H) ∨ rCatA K x y H Q ∨ rCat x y H Q) addD := by
  intro F α μ H d1 d2 x y Q W m r1 r2 o
  unfold addD at o
  split at o
  · cases r1; cases r2
    exact .inl ⟨_, _, rfl, rfl, outI m o⟩
  · rename_i a b
    obtain ⟨_, rfl⟩ := r1
    obtain ⟨_, rfl⟩ := r2
    split at o
    · rename_i hz
      refine .inr (.inl ⟨_, _, rfl, rfl, by rw [sV_len, sV_len]; exact lim_line hz, ?_⟩)
      rw [sV_app]
      exact outD (v := .str (a ++ b)) m ⟨by rw [List.length_append]; exact hz, rfl⟩ o
    · exact o.elim
  · rename_i a b
    obtain ⟨za, p, xs, rfl, hx, ra⟩ := r1
    obtain ⟨zb, q, ys, rfl, hy, rb⟩ := r2
    split at o
    · rename_i hz
      have hl : (a ++ b).length ≤ LIM := by rw [List.length_append]; exact hz
      refine .inr (.inr (.inl ⟨p, q, xs, ys, rfl, rfl, sqT_le m.fz hx, sqT_le m.fz hy, by rw [← ra.length, ← rb.length]; exact lim_line hz, fun e => ?_, fun e1 e2 => ?_, fun e1 e2 => out_tup m (ra.append rb) hl o⟩))
      · have e' := (reps_nil_iff ra).mp e
        subst e'
        exact outD (v := .tup b) m ⟨zb, q, ys, rfl, hy, rb⟩ o
      · have e' := (reps_nil_iff rb).mp e2
        subst e'
        rw [List.append_nil] at o
        exact outD (v := .tup a) m ⟨za, p, xs, rfl, hx, ra⟩ o
    · exact o.elim
  · rename_i a b
    obtain ⟨za, p, xs, rfl, hx, ra⟩ := r1
    obtain ⟨zb, q, ys, rfl, hy, rb⟩ := r2
    split at o
    · rename_i hz
      have hl : (a ++ b).length ≤ LIM := by rw [List.length_append]; exact hz
      exact .inr (.inr (.inr ⟨p, q, xs, ys, rfl, rfl, m.fz _ _ hx, m.fz _ _ hy, by rw [← ra.length, ← rb.length]; exact lim_line hz, out_lst m (ra.append rb) hl o⟩))
    · exact o.elim
  · rename_i n b
    obtain ⟨p, hp, rfl⟩ := r1
    obtain ⟨zb, q, ys, rfl, hy, rb⟩ := r2
    cases qc : μ[n]? with
    | none => rw [qc] at o; exact o.elim
    | some cl =>
      rw [qc] at o
      cases cl with
      | ins _ _ => exact o.elim
      | dead => exact o.elim
      | tab _ => exact o.elim
      | lst a =>
        simp only at o
        obtain ⟨h0, z, xs, hx, ra⟩ := m.ok n _ p qc hp
        split at o
        · rename_i hz
          have hl : (a ++ b).length ≤ LIM := by rw [List.length_append]; exact hz
          exact .inr (.inr (.inr ⟨p, q, xs, ys, rfl, rfl, hx, m.fz _ _ hy, by rw [← ra.length, ← rb.length]; exact lim_line hz, out_lst m (ra.append rb) hl o⟩))
        · exact o.elim
  · rename_i a n
    obtain ⟨za, p, xs, rfl, hx, ra⟩ := r1
    obtain ⟨q, hq, rfl⟩ := r2
    cases qc : μ[n]? with
    | none => rw [qc] at o; exact o.elim
    | some cl =>
      rw [qc] at o
      cases cl with
      | ins _ _ => exact o.elim
      | dead => exact o.elim
      | tab _ => exact o.elim
      | lst b =>
        simp only at o
        obtain ⟨h0, z, ys, hy, rb⟩ := m.ok n _ q qc hq
        split at o
        · rename_i hz
          have hl : (a ++ b).length ≤ LIM := by rw [List.length_append]; exact hz
          exact .inr (.inr (.inr ⟨p, q, xs, ys, rfl, rfl, m.fz _ _ hx, hy, by rw [← ra.length, ← rb.length]; exact lim_line hz, out_lst m (ra.append rb) hl o⟩))
        · exact o.elim
  · exact o.elim
theorem ok_sub : OpOk K (rI0 fun i j => .int (i - j)) subD := by
  intro F α μ H d1 d2 x y Q W m r1 r2 o
  unfold subD at o
  split at o
  · cases r1; cases r2
    exact ⟨_, _, rfl, rfl, outI m o⟩
  · exact o.elim
theorem op_mulX : OpR X (binaryOp .Mult) (fun x y H Q => (rI CMul (fun i j => .int (i * j))) x y H Q ∨ rRep x y H Q) := op_mul.or op_rep
theorem ok_mul : OpOk K (fun x y H Q => (rI CMul (fun i j => .int (i * j))) x y H Q ∨ rRep x y H Q) mulD := by
  intro F α μ H d1 d2 x y Q W m r1 r2 o
  unfold mulD at o
  split at o
  · cases r1; cases r2
    split at o
    · rename_i hc
      exact .inl ⟨_, _, rfl, rfl, hc, outI m o⟩
    · exact o.elim
  · rename_i a b
    obtain ⟨za, p, xs, rfl, hx, ra⟩ := r1
    cases r2
    split at o
    · rename_i hc
      obtain ⟨h1, h2, h3⟩ := hc
      have rr : ∀ n, Reps K F (List.replicate n a).flatten (List.replicate n xs).flatten := fun n => by
        induction n with
        | zero => exact rfl
        | succ n ih =>
          rw [List.replicate_succ, List.replicate_succ, List.flatten_cons, List.flatten_cons]
          exact ra.append ih
      have hl : (List.replicate b.toNat a).flatten.length ≤ LIM := by
        rw [List.length_flatten, List.map_replicate, List.sum_replicate_nat, Nat.mul_comm]
        exact h3
      exact .inr ⟨p, b, xs, rfl, rfl, m.fz _ _ hx, by omega, by omega, by rw [← ra.length]; exact lim_line h3, out_lst m (rr _) hl o⟩
    · exact o.elim
  · exact o.elim
theorem ok_fdiv : OpOk K (rI CDiv fun i j => .int (i / j)) fdivD := by
  intro F α μ H d1 d2 x y Q W m r1 r2 o
  unfold fdivD at o
  split at o
  · cases r1; cases r2
    split at o
    · rename_i hc
      exact ⟨_, _, rfl, rfl, hc, outI m o⟩
    · exact o.elim
  · exact o.elim
theorem ok_mod : OpOk K (rI (fun _ j => 0 < j) fun i j => .int (i % j)) modD := by
  intro F α μ H d1 d2 x y Q W m r1 r2 o
  unfold modD at o
  split at o
  · cases r1; cases r2
    split at o
    · rename_i hc
      exact ⟨_, _, rfl, rfl, hc, outI m o⟩
    · exact o.elim
  · exact o.elim
theorem ok_pow : OpOk K (rI CPow fun i j => .int (i ^ j.toNat)) powD := by
  intro F α μ H d1 d2 x y Q W m r1 r2 o
  unfold powD at o
  split at o
  · cases r1; cases r2
    split at o
    · rename_i hc
      exact ⟨_, _, rfl, rfl, hc, outI m o⟩
    · exact o.elim
  · exact o.elim
variable {W : WX} {pos : Pos} {a b : Expr} {xa xb : EX}
theorem de_add (ha : DE X W a xa) (hb : DE X W b xb) : DE X W (.BinOp a .Add b pos) (e2 addD xa xb) := de_op op_addX ok_add ha hb
theorem de_sub (ha : DE X W a xa) (hb : DE X W b xb) : DE X W (.BinOp a .Sub b pos) (e2 subD xa xb) := de_op op_sub ok_sub ha hb
theorem de_mul (ha : DE X W a xa) (hb : DE X W b xb) : DE X W (.BinOp a .Mult b pos) (e2 mulD xa xb) := de_op op_mulX ok_mul ha hb
theorem de_fdiv (ha : DE X W a xa) (hb : DE X W b xb) : DE X W (.BinOp a .FloorDiv b pos) (e2 fdivD xa xb) := de_op op_fdiv ok_fdiv ha hb
theorem de_mod (ha : DE X W a xa) (hb : DE X W b xb) : DE X W (.BinOp a .Mod b pos) (e2 modD xa xb) := de_op op_mod ok_mod ha hb
theorem de_pow (ha : DE X W a xa) (hb : DE X W b xb) : DE X W (.BinOp a .Pow b pos) (e2 powD xa xb) := de_op op_pow ok_pow ha hb
end
mutual
/-- == of data -/
def eqD : Dat → Dat → Bool
  | .non, .non => true
  | .bl a, .bl b => a == b
  | .bl a, .int j => (if a then 1 else 0) == j
  | .int i, .bl b => i == (if b then 1 else 0)
  | .int i, .int j => i == j
  | .str x, .str y => x == y
  | .lst xs, .lst ys => eqDs xs ys
  | .tup xs, .tup ys => eqDs xs ys
  | _, _ => false
def eqDs : List Dat → List Dat → Bool
  | [], [] => true
  | x :: xs, y :: ys => eqD x y && eqDs xs ys
  | _, _ => false
end
mutual
/-- data without instances, at most n deep -/
def shal : Nat → Dat → Bool
  | _, .non => true
  | _, .bl _ => true
  | _, .int _ => true
  | _, .str s => s.all fun c => decide (c < 128)
  | 0, .tup _ => false
  | 0, .lst _ => false
  | n + 1, .tup ds => shals n ds
  | n + 1, .lst ds => shals n ds
  | _, _ => false
def shals : Nat → List Dat → Bool
  | _, [] => true
  | n, d :: ds => shal n d && shals n ds
end
mutual
def pyD : Dat → PyData
  | .non => .none
  | .bl b => .bool b
  | .int i => .int i
  | .str s => .str (sV s)
  | .tup ds => .tuple (pyDs ds)
  | .lst ds => .list (pyDs ds)
  | _ => .none
def pyDs : List Dat → List PyData
  | [] => []
  | d :: ds => pyD d :: pyDs ds
end
def eqB : G2
  | .d a, .d b, μ => if shal 60 a && shal 60 b then okD (.bl (eqD a b)) μ else .stuck
  | _, _, _ => .stuck
def neB : G2
  | .d a, .d b, μ => if shal 60 a && shal 60 b then okD (.bl (!eqD a b)) μ else .stuck
  | _, _, _ => .stuck
section
variable {K : Fr} {F : Hp}
mutual
theorem dp_of {H : Hp} (e : Le F H) : ∀ (n : Nat) (d : Dat) (v : V), shal n d = true → Rep K F d v → Dp K H v (pyD d)
  | _, .non, _, _, r => by cases r; exact .non
  | _, .bl b, _, _, r => by cases r; exact .bl b
  | _, .int i, _, _, r => by cases r; exact .int i
  | _, .str s, _, _, ⟨_, r⟩ => by cases r; exact .str (sV s)
  | 0, .tup _, _, h, _ => by simp [shal] at h
  | 0, .lst _, _, h, _ => by simp [shal] at h
  | n + 1, .tup ds, _, h, ⟨_, a, xs, e1, h2, r⟩ => by
    subst e1
    exact .tup (sqT_le e h2) (dps_of e n ds xs (by simpa [shal] using h) r)
  | n + 1, .lst ds, _, h, ⟨_, a, xs, e1, h2, r⟩ => by
    subst e1
    exact .lst (SqL.of (e _ _ h2)) (dps_of e n ds xs (by simpa [shal] using h) r)
  | n, .ins _ _, _, h, _ => by cases n <;> simp [shal] at h
  | n, .dic, _, h, _ => by cases n <;> simp [shal] at h
  | n, .fl _, _, h, _ => by cases n <;> simp [shal] at h
theorem dps_of {H : Hp} (e : Le F H) : ∀ (n : Nat) (ds : List Dat) (vs : List V), shals n ds = true → Reps K F ds vs → DpAll K H vs (pyDs ds)
  | _, [], _, _, r => by cases (show _ = [] from r); exact .nil
  | n, d :: ds, _, h, ⟨x, r, e1, r1, r2⟩ => by
    subst e1
    have h' : shal n d = true ∧ shals n ds = true := by simpa [shals] using h
    exact .cons (dp_of e n d x h'.1 r1) (dps_of e n ds r h'.2 r2)
end
mutual
theorem eqv_of : ∀ (a b : Dat) (n m : Nat), shal n a = true → shal m b = true → PyData.eqv (pyD a) (pyD b) = eqD a b
  | .non, b, n, m, ha, hb => by cases b <;> first | rfl | (cases m <;> simp [shal] at hb)
  | .bl x, b, n, m, ha, hb => by cases b <;> first | rfl | (cases m <;> simp [shal] at hb)
  | .int x, b, n, m, ha, hb => by cases b <;> first | rfl | (cases m <;> simp [shal] at hb)
  | .str x, b, n, m, ha, hb => by
    cases b <;> first | rfl | (cases m <;> simp [shal] at hb; done) | skip
    rename_i y
    show (sV x == sV y) = (x == y)
    by_cases h : x = y
    · subst h; simp
    · have h2 : sV x ≠ sV y := fun e => h (sV_inj e)
      rw [beq_eq_false_iff_ne.mpr h, beq_eq_false_iff_ne.mpr h2]
  | .tup xs, b, n, m, ha, hb => by
    cases b <;> first | rfl | (cases m <;> simp [shal] at hb; done) | skip
    rename_i ys
    cases n with
    | zero => simp [shal] at ha
    | succ n => cases m with
      | zero => simp [shal] at hb
      | succ m => exact eqvs_of xs ys n m (by simpa [shal] using ha) (by simpa [shal] using hb)
  | .lst xs, b, n, m, ha, hb => by
    cases b <;> first | rfl | (cases m <;> simp [shal] at hb; done) | skip
    rename_i ys
    cases n with
    | zero => simp [shal] at ha
    | succ n => cases m with
      | zero => simp [shal] at hb
      | succ m => exact eqvs_of xs ys n m (by simpa [shal] using ha) (by simpa [shal] using hb)
  | .ins _ _, _, n, _, h, _ => by cases n <;> simp [shal] at h
  | .dic, _, n, _, h, _ => by cases n <;> simp [shal] at h
  | .fl _, _, n, _, h, _ => by cases n <;> simp [shal] at h
theorem eqvs_of : ∀ (a b : List Dat) (n m : Nat), shals n a = true → shals m b = true → PyData.eqvAll (pyDs a) (pyDs b) = eqDs a b
  | [], [], _, _, _, _ => rfl
  | [], _ :: _, _, _, _, _ => rfl
  | _ :: _, [], _, _, _, _ => rfl
  | x :: xs, y :: ys, n, m, ha, hb => by
    have h1 : shal n x = true ∧ shals n xs = true := by simpa [shals] using ha
    have h2 : shal m y = true ∧ shals m ys = true := by simpa [shals] using hb
    show (PyData.eqv (pyD x) (pyD y) && PyData.eqvAll (pyDs xs) (pyDs ys)) = (eqD x y && eqDs xs ys)
    rw [eqv_of x y n m h1.1 h2.1, eqvs_of xs ys n m h1.2 h2.2]
end
mutual
theorem lay_of : ∀ (d : Dat) (n : Nat), shal n d = true → (pyD d).canLay0 = true ∧ (pyD d).depth ≤ n + 1
  | .non, n, _ => ⟨rfl, by simp [pyD, PyData.depth]⟩
  | .bl _, n, _ => ⟨rfl, by simp [pyD, PyData.depth]⟩
  | .int _, n, _ => ⟨rfl, by simp [pyD, PyData.depth]⟩
  | .str s, n, h => ⟨by
      have h' : ∀ c ∈ s, c < 128 := by simpa [shal] using h
      show PyData.strOk (sV s) = true
      unfold PyData.strOk
      rw [← Array.all_toList, sV_cps, List.all_eq_true]
      exact fun c hc => decide_eq_true (Nat.lt_trans (h' c hc) (by decide)), by simp [pyD, PyData.depth]⟩
  | .tup ds, n, h => by
    cases n with
    | zero => simp [shal] at h
    | succ n =>
      obtain ⟨h1, h2⟩ := lays_of ds n (by simpa [shal] using h)
      exact ⟨by simpa [pyD, PyData.canLay0] using h1, by simp [pyD, PyData.depth]; omega⟩
  | .lst ds, n, h => by
    cases n with
    | zero => simp [shal] at h
    | succ n =>
      obtain ⟨h1, h2⟩ := lays_of ds n (by simpa [shal] using h)
      exact ⟨by simpa [pyD, PyData.canLay0] using h1, by simp [pyD, PyData.depth]; omega⟩
  | .ins _ _, n, h => by cases n <;> simp [shal] at h
  | .dic, n, h => by cases n <;> simp [shal] at h
  | .fl _, n, h => by cases n <;> simp [shal] at h
theorem lays_of : ∀ (ds : List Dat) (n : Nat), shals n ds = true → PyData.canLayAll0 (pyDs ds) = true ∧ PyData.depthAll (pyDs ds) ≤ n + 1
  | [], n, _ => ⟨rfl, by simp [pyDs, PyData.depthAll]⟩
  | d :: ds, n, h => by
    have h1 : shal n d = true ∧ shals n ds = true := by simpa [shals] using h
    obtain ⟨a1, a2⟩ := lay_of d n h1.1
    obtain ⟨b1, b2⟩ := lays_of ds n h1.2
    exact ⟨by simp [pyDs, PyData.canLayAll0, a1, b1], by simp [pyDs, PyData.depthAll]; omega⟩
end
end
section
variable {X : Cx} {K : Fr}
theorem shaped_of {d : Dat} (h : shal 60 d = true) : SeqAt.shaped (pyD d) = true := by
  obtain ⟨h1, h2⟩ := lay_of d 60 h
  unfold SeqAt.shaped
  rw [h1, Bool.true_and]
  exact decide_eq_true (by omega)
theorem ok_eq : OpOk K (rEqD K) eqB := by
  intro F α μ H d1 d2 x y Q W m r1 r2 o
  unfold eqB at o
  split at o
  · rename_i a b
    split at o
    · rename_i h
      obtain ⟨h1, h2⟩ := Bool.and_eq_true_iff.mp h
      refine ⟨pyD a, pyD b, dp_of m.fz 60 a x h1 r1, dp_of m.fz 60 b y h2 r2, shaped_of h1, shaped_of h2, ?_⟩
      rw [eqv_of a b 60 60 h1 h2]
      exact outB m o
    · exact o.elim
  · exact o.elim
theorem ok_ne : OpOk K (rNeD K) neB := by
  intro F α μ H d1 d2 x y Q W m r1 r2 o
  unfold neB at o
  split at o
  · rename_i a b
    split at o
    · rename_i h
      obtain ⟨h1, h2⟩ := Bool.and_eq_true_iff.mp h
      refine ⟨pyD a, pyD b, dp_of m.fz 60 a x h1 r1, dp_of m.fz 60 b y h2 r2, shaped_of h1, shaped_of h2, ?_⟩
      rw [eqv_of a b 60 60 h1 h2]
      exact outB m o
    · exact o.elim
  · exact o.elim
/-- < of ints, of texts -/
def ltL (a b : List Nat) : Bool := decide (a < b)
def ltD : G2
  | .d (.int a), .d (.int b), μ => okD (.bl (decide (a < b))) μ
  | .d (.str a), .d (.str b), μ => okD (.bl (ltL a b)) μ
  | _, _, _ => .stuck
def leD : G2
  | .d (.int a), .d (.int b), μ => okD (.bl (decide (a ≤ b))) μ
  | .d (.str a), .d (.str b), μ => okD (.bl (!ltL b a)) μ
  | _, _, _ => .stuck
def gtD : G2
  | .d (.int a), .d (.int b), μ => okD (.bl (decide (b < a))) μ
  | _, _, _ => .stuck
def geD : G2
  | .d (.int a), .d (.int b), μ => okD (.bl (decide (b ≤ a))) μ
  | _, _, _ => .stuck
def isNonD : Dat → Bool
  | .non => true
  | _ => false
def isN : G2
  | .d a, .d .non, μ => okD (.bl (isNonD a)) μ
  | .c _, .d .non, μ => okD (.bl false) μ
  | _, _, _ => .stuck
def notN : G2
  | .d a, .d .non, μ => okD (.bl (!isNonD a)) μ
  | .c _, .d .non, μ => okD (.bl true) μ
  | _, _, _ => .stuck
abbrev rLtX : R2 := fun x y H Q => (rI0 (fun i j => .bl (decide (i < j)))) x y H Q ∨ (∃ i j, x = .str i ∧ y = .str j ∧ Q (.bl (decide (i.cps.toList < j.cps.toList))) H)
theorem op_ltX : OpR X (compareOp .Lt) rLtX := op_lt.or op_lt_str
theorem ok_lt : OpOk K rLtX ltD := by
  intro F α μ H d1 d2 x y Q W m r1 r2 o
  unfold ltD at o
  split at o
  · cases r1; cases r2
    exact .inl ⟨_, _, rfl, rfl, outB m o⟩
  · rename_i a b
    obtain ⟨_, rfl⟩ := r1
    obtain ⟨_, rfl⟩ := r2
    refine .inr ⟨_, _, rfl, rfl, ?_⟩
    rw [sV_cps, sV_cps]
    exact outB m o
  · exact o.elim
theorem ok_gt : OpOk K (rI0 fun i j => .bl (decide (j < i))) gtD := by
  intro F α μ H d1 d2 x y Q W m r1 r2 o
  unfold gtD at o
  split at o
  · cases r1; cases r2
    exact ⟨_, _, rfl, rfl, outB m o⟩
  · exact o.elim
theorem ok_ge : OpOk K (rI0 fun i j => .bl (decide (j ≤ i))) geD := by
  intro F α μ H d1 d2 x y Q W m r1 r2 o
  unfold geD at o
  split at o
  · cases r1; cases r2
    exact ⟨_, _, rfl, rfl, outB m o⟩
  · exact o.elim
variable {W : WX} {pos : Pos} {a b c : Expr} {xa xb xc : EX}
theorem de_eq (hu : X.A.units + 64 < cLine) (ha : DE X W a xa) (hb : DE X W b xb) : DE X W (.Compare a [.Eq] [b] pos) (e2 eqB xa xb) := de_cmp (op_eqD hu) ok_eq ha hb
theorem de_lt (ha : DE X W a xa) (hb : DE X W b xb) : DE X W (.Compare a [.Lt] [b] pos) (e2 ltD xa xb) := de_cmp op_ltX ok_lt ha hb
theorem de_gt (ha : DE X W a xa) (hb : DE X W b xb) : DE X W (.Compare a [.Gt] [b] pos) (e2 gtD xa xb) := de_cmp op_gt ok_gt ha hb
end
end DL
set_option Elab.async false
set_option linter.all false
set_option maxRecDepth 100000
set_option maxHeartbeats 4000000
namespace DL
open PySem PySem.Spec PyProof.Rows L2
def truD : DV → List Cel → Option Bool
  | .d .non, _ => some false
  | .d (.bl b), _ => some b
  | .d (.int i), _ => some (i != 0)
  | .d (.str s), _ => some (!s.isEmpty)
  | .d (.tup ds), _ => some (!ds.isEmpty)
  | .d (.lst ds), _ => some (!ds.isEmpty)
  | .d (.fl ds), _ => some (!ds.isEmpty)
  | .d .dic, _ => some false
  | .c n, μ => (match μ[n]? with
    | some (.lst ds) => some (!ds.isEmpty)
    | _ => none)
  | _, _ => none
def tTru (a : EX) : TX := fun ρ μ => (a ρ μ).bind fun x μ => match truD x μ with
  | some b => .ok b μ
  | none => .stuck
def tBool (a : EX) : TX := fun ρ μ => (a ρ μ).bind fun x μ => match x with
  | .d (.bl b) => .ok b μ
  | _ => .stuck
def tAndX (a b : TX) : TX := fun ρ μ => (a ρ μ).bind fun x μ => if x then b ρ μ else .ok false μ
def tOrX (a b : TX) : TX := fun ρ μ => (a ρ μ).bind fun x μ => if x then .ok true μ else b ρ μ
def tNotX (a : TX) : TX := fun ρ μ => (a ρ μ).bind fun x μ => .ok (!x) μ
def eAnd (a b : EX) : EX := fun ρ μ => (a ρ μ).bind fun x μ => match truD x μ with
  | some true => b ρ μ
  | some false => .ok x μ
  | none => .stuck
def eOr (a b : EX) : EX := fun ρ μ => (a ρ μ).bind fun x μ => match truD x μ with
  | some false => b ρ μ
  | some true => .ok x μ
  | none => .stuck
def eNot (a : EX) : EX := fun ρ μ => (a ρ μ).bind fun x μ => match truD x μ with
  | some b => .ok (.d (.bl (!b))) μ
  | none => .stuck
def eIf (c : TX) (a b : EX) : EX := fun ρ μ => (c ρ μ).bind fun x μ => if x then a ρ μ else b ρ μ
def eChain (g g' : G2) (a b c : EX) : EX := fun ρ μ => (a ρ μ).bind fun x μ => (b ρ μ).bind fun y μ => (g x y μ).bind fun z μ => match z with
  | .d (.bl true) => (c ρ μ).bind fun w μ => g' y w μ
  | .d (.bl false) => .ok (.d (.bl false)) μ
  | _ => .stuck
section
variable {K : Fr} {F H : Hp} {α : List Addr} {μ : List Cel}
theorem reps_empty {F : Hp} {ds : List Dat} {xs : List V} (h : Reps K F ds xs) : (!ds.isEmpty) = !xs.isEmpty := by
  cases ds with
  | nil => cases (show xs = [] from h); rfl
  | cons d ds => obtain ⟨x, r, rfl, _⟩ := h; rfl
theorem str_ne0 (s : List Nat) : (!s.isEmpty) = (((sV s).length : Int) != 0) := by
  rw [sV_len]
  cases s with
  | nil => rfl
  | cons a s =>
    show true = _
    symm
    rw [bne_iff_ne]
    simp only [List.length_cons]
    omega
theorem tru_of (m : Mem K F H α μ) : ∀ {d : DV} {x : V} {b : Bool}, RepV K F α d x → truD d μ = some b → TruV K x H b
  | .d .non, _, _, r, e => by cases r; cases e; exact rfl
  | .d (.bl _), _, _, r, e => by cases r; cases e; exact rfl
  | .d (.int _), _, _, r, e => by cases r; cases e; exact rfl
  | .d (.str s), _, _, ⟨h, r⟩, e => by cases r; cases e; exact ⟨by rw [sV_len]; exact lim_line h, str_ne0 s⟩
  | .d (.tup ds), _, _, ⟨_, a, xs, r, h, rr⟩, e => by cases r; cases e; exact .inr (.inl ⟨xs, sqT_le m.fz h, reps_empty rr⟩)
  | .d (.lst ds), _, _, ⟨_, a, xs, r, h, rr⟩, e => by cases r; cases e; exact .inl ⟨xs, SqL.of (m.fz _ _ h), reps_empty rr⟩
  | .d (.fl ds), _, _, ⟨_, a, xs, r, h, rr⟩, e => by cases r; cases e; exact .inl ⟨xs, sqL_le m.fz h, reps_empty rr⟩
  | .d .dic, _, _, ⟨a, r, h⟩, e => by cases r; cases e; exact .inr (.inr ⟨[], m.fz _ _ h, rfl⟩)
  | .d (.ins _ _), _, _, _, e => by cases e
  | .d (.exn _ _), _, _, _, e => by cases e
  | .d (.cls _), _, _, _, e => by cases e
  | .f _ _ _ _ _ _, _, _, _, e => by cases e
  | .c n, _, b, ⟨a, h, r⟩, e => by
    cases r
    have e' : (match μ[n]? with
      | some (.lst ds) => some (!ds.isEmpty)
      | _ => none) = some b := e
    cases q : μ[n]? with
    | none => rw [q] at e'; cases e'
    | some c =>
      rw [q] at e'
      cases c with
      | lst ds =>
        obtain ⟨_, _, xs, h2, rr⟩ := m.ok n _ a q h
        have e2 : (!ds.isEmpty) = b := Option.some.inj e'
        exact .inl ⟨xs, SqL.of h2, by rw [← e2]; exact reps_empty rr⟩
      | ins _ _ => cases e'
      | dead => cases e'
      | tab _ => cases e'
end
structure DW (X : Cx) (W : WX) (e : Expr) (x : TX) : Prop where
  pw : PW X e (tDT X.K W x)
theorem PW.of {X : Cx} {e : Expr} {t t' : TT} (h : PW X e t) (i : ∀ σ H Q, t' σ H Q → t σ H Q) : PW X e t' := ⟨fun wh pins s σ H Q I hw => h.run wh pins s σ H Q I (i σ H Q hw)⟩
section
variable {X : Cx} {W : WX} {pos : Pos} {a b c : Expr} {xa xb xc : EX} {ta tb : TX} {rest : List Expr}
theorem dt_val (h : DE X W a xa) (he : ∀ whole, isTrue a X.env whole = (do let v ← whole; standAt a.pos; holding [v] (truthy v)) := by intro _; rfl) : DT X W a (tTru xa) := by
  refine ⟨PT.of (pt_truth h.pe he) fun σ H Q hh => ?_⟩
  refine tX_bind (f := fun _ x μ => match truD x μ with
    | some b => .ok b μ
    | none => .stuck) hh fun F α ρ μ v u H1 m s rv o => ?_
  cases e : truD v μ with
  | none => simp only [e] at o; exact o.elim
  | some k =>
    simp only [e] at o
    exact ⟨k, tru_of m rv e, OutOk.here (R := RB) o m rfl⟩
theorem dt_bool {op : CmpOp} {x : EX} {cs : List Expr} {t : TE} {ops : List CmpOp} (h : PT X (.Compare a ops cs pos) (tTest t)) (i : ∀ σ H (Q : VK), tD X.K W x σ H Q → t σ H Q) : DT X W (.Compare a ops cs pos) (tBool x) := by
  refine ⟨PT.of h fun σ H Q hh => i σ H _ ?_⟩
  refine tX_bind (f := fun _ x μ => match x with
    | .d (.bl b) => .ok b μ
    | _ => .stuck) hh fun F α ρ μ v u H1 m s rv o => ?_
  split at o
  · cases rv
    exact ⟨_, rfl, OutOk.here (R := RB) o m rfl⟩
  · exact o.elim
theorem dt_cmp {op : CmpOp} {r : R2} {g : G2} (ho : OpR X (compareOp op) r) (ok : OpOk X.K r g) (ha : DE X W a xa) (hb : DE X W b xb) (hm : behindInMarks op b = false := by first | rfl | exact nomark _) : DT X W (.Compare a [op] [b] pos) (tBool (e2 g xa xb)) :=
  dt_bool (op := op) (pt_cmpR ho ha.pe hb.pe hm) fun σ H Q h => pure2 ok h
theorem dt_eq (hu : X.A.units + 64 < cLine) (ha : DE X W a xa) (hb : DE X W b xb) : DT X W (.Compare a [.Eq] [b] pos) (tBool (e2 eqB xa xb)) := dt_cmp (op_eqD hu) ok_eq ha hb
theorem dt_ne (hu : X.A.units + 64 < cLine) (ha : DE X W a xa) (hb : DE X W b xb) : DT X W (.Compare a [.NotEq] [b] pos) (tBool (e2 neB xa xb)) := dt_cmp (op_neD hu) ok_ne ha hb
theorem dt_lt (ha : DE X W a xa) (hb : DE X W b xb) : DT X W (.Compare a [.Lt] [b] pos) (tBool (e2 ltD xa xb)) := dt_cmp op_ltX ok_lt ha hb
theorem dt_gt (ha : DE X W a xa) (hb : DE X W b xb) : DT X W (.Compare a [.Gt] [b] pos) (tBool (e2 gtD xa xb)) := dt_cmp op_gt ok_gt ha hb
theorem dt_ge (ha : DE X W a xa) (hb : DE X W b xb) : DT X W (.Compare a [.GtE] [b] pos) (tBool (e2 geD xa xb)) := dt_cmp op_ge ok_ge ha hb
theorem pureC {r r' : R2} {g g' : G2} {K : Fr} {σ : St} {H : Hp} {Q : VK} (ok : OpOk K r g) (ok' : OpOk K r' g') (h : tD K W (eChain g g' xa xb xc) σ H Q) : tChain r r' (tD K W xa) (tD K W xb) (tD K W xc) σ H Q := by
  obtain ⟨F, α, ρ, μ, m, s, o⟩ := h
  refine tX_mk m s (OutOk.bind o fun v u F1 α1 μ1 H1 g1 m1 r1 o1 => ?_)
  refine tX_mk m1 (s.grow g1) (OutOk.bind o1 fun v2 u2 F2 α2 μ2 H2 g2 m2 r2 o2 => ?_)
  refine ok F2 α2 μ2 H2 v v2 u u2 _ _ m2 (r1.grow g2) r2 (OutOk.bind o2 fun z w F3 α3 μ3 H3 g3 m3 r3 o3 => ?_)
  split at o3
  · cases r3
    refine ⟨true, rfl, iteT ?_⟩
    refine tX_mk m3 (s.grow (g1.trans (g2.trans g3))) (OutOk.bind o3 fun v4 u4 F4 α4 μ4 H4 g4 m4 r4 o4 => ?_)
    exact ok' F4 α4 μ4 H4 v2 v4 u2 u4 _ _ m4 (r2.grow (g3.trans g4)) r4 o4
  · cases r3
    exact ⟨false, rfl, iteF (outB m3 o3)⟩
  · exact o3.elim
theorem de_chain {op op' : CmpOp} {r r' : R2} {g g' : G2} (ho : OpR X (compareOp op) r) (ho' : OpR X (compareOp op') r') (ok : OpOk X.K r g) (ok' : OpOk X.K r' g') (ha : DE X W a xa) (hb : DE X W b xb) (hc : DE X W c xc)
    (hm : lastMarks [op, op'] [b, c] = false := by with_unfolding_all rfl) : DE X W (.Compare a [op, op'] [b, c] pos) (eChain g g' xa xb xc) := ⟨PE.of (pe_chain ho ho' ha.pe hb.pe hc.pe hm) fun σ H Q h => pureC ok ok' h⟩
theorem de_ltlt (ha : DE X W a xa) (hb : DE X W b xb) (hc : DE X W c xc) (hm : lastMarks [.Lt, .Lt] [b, c] = false := by with_unfolding_all rfl) : DE X W (.Compare a [.Lt, .Lt] [b, c] pos) (eChain ltD ltD xa xb xc) := de_chain op_ltX op_ltX ok_lt ok_lt ha hb hc hm
theorem dw_or1 (ha : DT X W a ta) : DW X W (.BoolOp .Or [a] pos) ta := ⟨pw_or1 ha.pt⟩
theorem dw_or (ha : DT X W a ta) (hb : DW X W (.BoolOp .Or (b :: rest) pos) tb) : DW X W (.BoolOp .Or (a :: b :: rest) pos) (tOrX ta tb) := by
  refine ⟨PW.of (pw_or ha.pt hb.pw) fun σ H Q ⟨F, α, ρ, μ, m, s, o⟩ => tX_mk m s (OutOk.bind o fun v u F1 α1 μ1 H1 g1 m1 r1 o1 => ?_)⟩
  cases (show u = v from r1)
  cases v with
  | true => exact iteT (OutOk.here (R := RB) o1 m1 rfl)
  | false => exact iteF (tX_mk m1 (s.grow g1) o1)
theorem dt_w (h : DW X W a ta) : DT X W a ta := ⟨h.pw.pt⟩
theorem dt_not (ha : DT X W a ta) : DT X W (.UnaryOp .Not a pos) (tNotX ta) := by
  refine ⟨PT.of (pt_not ha.pt) fun σ H Q ⟨F, α, ρ, μ, m, s, o⟩ => tX_mk m s (OutOk.bind o fun v u F1 α1 μ1 H1 g1 m1 r1 o1 => ?_)⟩
  cases (show u = v from r1)
  exact OutOk.here (R := RB) o1 m1 rfl
theorem de_one {op} (h : DE X W a xa) : DE X W (.BoolOp op [a] pos) xa := ⟨pe_one h.pe⟩
theorem de_or (ha : DE X W a xa) (hb : DE X W (.BoolOp .Or (b :: rest) pos) xb) : DE X W (.BoolOp .Or (a :: b :: rest) pos) (eOr xa xb) := by
  refine ⟨PE.of (pe_orT ha.pe hb.pe) fun σ H Q ⟨F, α, ρ, μ, m, s, o⟩ => tX_mk m s (OutOk.bind o fun v u F1 α1 μ1 H1 g1 m1 r1 o1 => ?_)⟩
  cases e : truD v μ1 with
  | none => simp only [e] at o1; exact o1.elim
  | some k =>
    simp only [e] at o1
    refine ⟨k, tru_of m1 r1 e, ?_⟩
    cases k with
    | false => exact iteF (tX_mk m1 (s.grow g1) o1)
    | true => exact iteT (OutOk.here (R := RV X.K) o1 m1 r1)
theorem de_if (hc : DT X W c ta) (ha : DE X W a xa) (hb : DE X W b xb) : DE X W (.IfExp c a b pos) (eIf ta xa xb) := by
  refine ⟨PE.of (pe_ifExp hc.pt ha.pe hb.pe) fun σ H Q ⟨F, α, ρ, μ, m, s, o⟩ => tX_mk m s (OutOk.bind o fun v u F1 α1 μ1 H1 g1 m1 r1 o1 => ?_)⟩
  cases (show u = v from r1)
  cases v with
  | true => exact iteT (tX_mk m1 (s.grow g1) o1)
  | false => exact iteF (tX_mk m1 (s.grow g1) o1)
end
def ofO (o : Option Dat) (μ : List Cel) : Out DV := match o with
  | some d => okD d μ
  | none => .stuck
def ixD : G2
  | .d (.tup ds), .d (.int i), μ => ofO (atI ds i) μ
  | .d (.lst ds), .d (.int i), μ => ofO (atI ds i) μ
  | .d (.fl ds), .d (.int i), μ => ofO (atI ds i) μ
  | .d (.str s), .d (.int i), μ => ofO ((atI s i).map fun c => .str [c]) μ
  | .c n, .d (.int i), μ => (match μ[n]? with
    | some (.lst ds) => ofO (atI ds i) μ
    | _ => .stuck)
  | _, _, _ => .stuck
def cutL {β : Type} (xs : List β) (lo hi : Option Int) : List β := (xs.drop (HT.sIx xs.length 0 lo)).take (HT.sIx xs.length xs.length hi - HT.sIx xs.length 0 lo)
def slD (x : DV) (lo hi : Option Int) (μ : List Cel) : Out DV := match x with
  | .d (.tup ds) => okD (.tup (cutL ds lo hi)) μ
  | .d (.lst ds) => okD (.lst (cutL ds lo hi)) μ
  | .d (.fl ds) => okD (.lst (cutL ds lo hi)) μ
  | .d (.str s) => okD (.str (cutL s lo hi)) μ
  | .c n => (match μ[n]? with
    | some (.lst ds) => okD (.lst (cutL ds lo hi)) μ
    | _ => .stuck)
  | _ => .stuck
def toI : DV → List Cel → Out (Option Int)
  | .d (.int i), μ => .ok (some i) μ
  | _, _ => .stuck
abbrev OX := Rho → List Cel → Out (Option Int)
def oN : OX := fun _ μ => .ok none μ
def oS (a : EX) : OX := fun ρ μ => (a ρ μ).bind toI
def eSl (a : EX) (lo hi : OX) : EX := fun ρ μ => (a ρ μ).bind fun x μ => (lo ρ μ).bind fun l μ => (hi ρ μ).bind fun h μ => slD x l h μ
def revD : G1
  | .d (.lst ds), μ => okD (.lst ds.reverse) μ
  | .d (.fl ds), μ => okD (.lst ds.reverse) μ
  | _, _ => .stuck
def eRev (a : EX) : EX := e1 revD a
section
variable {K : Fr} {F H : Hp} {α : List Addr} {μ : List Cel}
theorem atI_got {ds : List Dat} {xs : List V} {i : Int} {d : Dat} (r : Reps K F ds xs) (h : atI ds i = some d) : ∃ x, atI xs i = some x ∧ Rep K F d x := by
  unfold atI at h ⊢
  rw [← r.length]
  cases e : ixN ds.length i with
  | none => rw [e] at h; cases h
  | some j =>
    rw [e] at h
    exact r.got h
theorem reps_cut {ds : List Dat} {xs : List V} (r : Reps K F ds xs) (lo hi : Option Int) : Reps K F (cutL ds lo hi) (cutV xs lo hi) := by
  unfold cutL cutV
  rw [← r.length]
  exact (r.drop _).take _
theorem cutL_length {β : Type} (xs : List β) (lo hi : Option Int) : (cutL xs lo hi).length ≤ xs.length := by
  unfold cutL
  rw [List.length_take, List.length_drop]
  omega
theorem ok_ix : OpOk K (rIx K) ixD := by
  intro F α μ H d1 d2 x y Q W m r1 r2 o
  unfold ixD at o
  split at o
  · obtain ⟨z, p, xs, rfl, hx, ra⟩ := r1
    cases r2
    rename_i ds i
    unfold ofO at o
    cases e : atI ds i with
    | none => rw [e] at o; exact o.elim
    | some d =>
      rw [e] at o
      obtain ⟨v, h, r⟩ := atI_got ra e
      exact .inr (.inl ⟨p, xs, _, v, rfl, rfl, sqT_le m.fz hx, h, outD m r o⟩)
  · obtain ⟨z, p, xs, rfl, hx, ra⟩ := r1
    cases r2
    rename_i ds i
    unfold ofO at o
    cases e : atI ds i with
    | none => rw [e] at o; exact o.elim
    | some d =>
      rw [e] at o
      obtain ⟨v, h, r⟩ := atI_got ra e
      exact .inl ⟨p, xs, _, v, rfl, rfl, SqL.of (m.fz _ _ hx), h, outD m r o⟩
  · obtain ⟨z, p, xs, rfl, hx, ra⟩ := r1
    cases r2
    rename_i ds i
    unfold ofO at o
    cases e : atI ds i with
    | none => rw [e] at o; exact o.elim
    | some d =>
      rw [e] at o
      obtain ⟨v, h, r⟩ := atI_got ra e
      exact .inl ⟨p, xs, _, v, rfl, rfl, sqL_le m.fz hx, h, outD m r o⟩
  · rename_i l i
    obtain ⟨z, rfl⟩ := r1
    cases r2
    unfold ofO at o
    cases e : atI l i with
    | none => rw [e] at o; exact o.elim
    | some d =>
      rw [e] at o
      exact .inr (.inr ⟨sV l, _, d, rfl, rfl, by rw [sV_len]; exact lim_line z, by rw [sV_cps]; exact e, outS (l := [d]) m (by show 1 ≤ 16777216; decide) o⟩)
  · rename_i n i
    obtain ⟨a, ha, rfl⟩ := r1
    cases r2
    cases e : μ[n]? with
    | none => rw [e] at o; exact o.elim
    | some c =>
      rw [e] at o
      cases c with
      | lst ds =>
        obtain ⟨_, _, xs, hx, ra⟩ := m.ok n _ a e ha
        simp only [ofO] at o
        cases e : atI ds i with
        | none => rw [e] at o; exact o.elim
        | some d =>
          rw [e] at o
          obtain ⟨v, h, r⟩ := atI_got ra e
          exact .inl ⟨a, xs, _, v, rfl, rfl, SqL.of hx, h, outD m r o⟩
      | ins _ _ => exact o.elim
      | dead => exact o.elim
      | tab _ => exact o.elim
  · exact o.elim
abbrev rSlX (K : Fr) : V → Option Int → Option Int → Hp → VK → Prop := fun x lo hi H Q => rSlA K x lo hi H Q ∨ rSlL K x lo hi H Q ∨ rSlS x lo hi H Q
theorem cutS_sV (s : List Nat) (lo hi : Option Int) : cutS (sV s) lo hi = sV (cutL s lo hi) := by
  unfold cutS cutL
  rw [sV_cps, sV_len]
  rfl
theorem ok_sl {d : DV} {x : V} {lo hi : Option Int} {Q : VK} {W : XK} (m : Mem K F H α μ) (r : RepV K F α d x) (o : OutOk (RV K) K F α (slD d lo hi μ) Q W) : rSlX K x lo hi H Q := by
  unfold slD at o
  split at o
  · rename_i ds
    obtain ⟨z, p, xs, rfl, hx, ra⟩ := r
    have hl := Nat.le_trans (cutL_length ds lo hi) z
    refine .inl ⟨p, xs, rfl, sqT_le m.fz hx, fun ⟨h1, h2⟩ => ?_, fun _ => out_tup m (reps_cut ra lo hi) hl o⟩
    have e : cutL ds lo hi = ds := by
      unfold cutL
      rw [ra.length, h1, h2, List.drop_zero, Nat.sub_zero, ← ra.length, List.take_length]
    rw [e] at o
    exact outD (v := .tup ds) m ⟨z, p, xs, rfl, hx, ra⟩ o
  · rename_i ds
    obtain ⟨z, p, xs, rfl, hx, ra⟩ := r
    exact .inr (.inl ⟨p, xs, rfl, SqL.of (m.fz _ _ hx), out_lst m (reps_cut ra lo hi) (Nat.le_trans (cutL_length ds lo hi) z) o⟩)
  · rename_i ds
    obtain ⟨z, p, xs, rfl, hx, ra⟩ := r
    exact .inr (.inl ⟨p, xs, rfl, sqL_le m.fz hx, out_lst m (reps_cut ra lo hi) (Nat.le_trans (cutL_length ds lo hi) z) o⟩)
  · rename_i l
    obtain ⟨z, rfl⟩ := r
    refine .inr (.inr ⟨sV l, rfl, by rw [sV_len]; exact lim_line z, ?_⟩)
    rw [cutS_sV]
    exact outS m (Nat.le_trans (cutL_length l lo hi) z) o
  · rename_i n
    obtain ⟨a, ha, rfl⟩ := r
    cases e : μ[n]? with
    | none => rw [e] at o; exact o.elim
    | some c =>
      rw [e] at o
      cases c with
      | lst ds =>
        obtain ⟨_, z, xs, hx, ra⟩ := m.ok n _ a e ha
        exact .inr (.inl ⟨a, xs, rfl, SqL.of hx, out_lst m (reps_cut ra lo hi) (Nat.le_trans (cutL_length ds lo hi) z) o⟩)
      | ins _ _ => exact o.elim
      | dead => exact o.elim
      | tab _ => exact o.elim
  · exact o.elim
end
abbrev RO : Hp → List Addr → Option Int → Option Int → Prop := fun _ _ v u => u = v
structure DO (X : Cx) (W : WX) (e : Option Expr) (x : OX) : Prop where
  po : PO X e (tX RO X.K W x)
theorem PO.of {X : Cx} {e : Option Expr} {t t' : TO} (h : PO X e t) (i : ∀ σ H Q, t' σ H Q → t σ H Q) : PO X e t' := ⟨fun pins s σ H Q I hw => h.run pins s σ H Q I (i σ H Q hw)⟩
section
variable {X : Cx} {W : WX} {pos p2 : Pos} {a b c : Expr} {xa xb xc : EX} {lo hi : Option Expr} {xl xh : OX}
theorem de_ix (ha : DE X W a xa) (hb : DE X W b xb) (hs : PlainIx b := by exact fun _ _ => rfl) : DE X W (.Subscript a b pos) (e2 ixD xa xb) := ⟨PE.of (pe_ix ix_seq ha.pe hb.pe hs) fun σ H Q h => pure2 ok_ix h⟩
theorem do_n : DO X W none oN := ⟨PO.of po_none fun σ H Q ⟨F, α, ρ, μ, m, s, o⟩ => OutOk.here (R := RO) o m rfl⟩
theorem do_s (ha : DE X W a xa) : DO X W (some a) (oS xa) := by
  refine ⟨PO.of (po_some ha.pe) fun σ H Q ⟨F, α, ρ, μ, m, s, o⟩ => tX_mk m s (OutOk.bind o fun v u F1 α1 μ1 H1 g1 m1 r1 o1 => ?_)⟩
  unfold toI at o1
  split at o1
  · cases r1
    exact ⟨_, rfl, OutOk.here (R := RO) o1 m1 rfl⟩
  · exact o1.elim
theorem de_sl (ha : DE X W a xa) (hl : DO X W lo xl) (hh : DO X W hi xh) : DE X W (.Subscript a (.Slice lo hi none p2) pos) (eSl xa xl xh) := by
  refine ⟨PE.of (pe_slice (sl_tupA.or (sl_list.or sl_str)) ha.pe hl.po hh.po) fun σ H Q ⟨F, α, ρ, μ, m, s, o⟩ => tX_mk m s (OutOk.bind o fun v u F1 α1 μ1 H1 g1 m1 r1 o1 => ?_)⟩
  refine tX_mk m1 (s.grow g1) (OutOk.bind o1 fun l l' F2 α2 μ2 H2 g2 m2 r2 o2 => ?_)
  refine tX_mk m2 (s.grow (g1.trans g2)) (OutOk.bind o2 fun h h' F3 α3 μ3 H3 g3 m3 r3 o3 => ?_)
  cases (show l' = l from r2)
  cases (show h' = h from r3)
  exact ok_sl m3 (r1.grow (g2.trans g3)) o3
end
end DL
set_option Elab.async false
set_option linter.all false
set_option maxRecDepth 100000
set_option maxHeartbeats 4000000
namespace DL
open PySem PySem.Spec PyProof.Rows L2
def lenN : DV → List Cel → Option Nat
  | .d (.str s), _ => some s.length
  | .d (.tup ds), _ => some ds.length
  | .d (.lst ds), _ => some ds.length
  | .d (.fl ds), _ => some ds.length
  | .c n, μ => (match μ[n]? with
    | some (.lst ds) => some ds.length
    | _ => none)
  | _, _ => none
def lenG : Gn
  | [x], μ => (match lenN x μ with
    | some n => okD (.int (n : Int)) μ
    | none => .stuck)
  | _, _ => .stuck
def absG : Gn
  | [.d (.int i)], μ => okD (.int (if i < 0 then -i else i)) μ
  | _, _ => .stuck
def maxG : Gn
  | [.d (.int i), .d (.int j)], μ => okD (.int (if j > i then j else i)) μ
  | _, _ => .stuck
def minG : Gn
  | [.d (.int i), .d (.int j)], μ => okD (.int (if j < i then j else i)) μ
  | _, _ => .stuck
def intG : Gn
  | [.d (.int i)], μ => okD (.int i) μ
  | [.d (.bl k)], μ => okD (.int (if k then 1 else 0)) μ
  | _, _ => .stuck
def tupleG : Gn
  | [.d (.tup ds)], μ => okD (.tup ds) μ
  | [.d (.lst ds)], μ => okD (.tup ds) μ
  | [.d (.fl ds)], μ => okD (.tup ds) μ
  | [.c n], μ => (match μ[n]? with
    | some (.lst ds) => okD (.tup ds) μ
    | _ => .stuck)
  | _, _ => .stuck
def listG : Gn
  | [.d (.tup ds)], μ => okD (.lst ds) μ
  | [.d (.lst ds)], μ => okD (.lst ds) μ
  | [.d (.fl ds)], μ => okD (.lst ds) μ
  | _, _ => .stuck
def bls : List Dat → Option (List Bool)
  | [] => some []
  | .bl b :: r => (bls r).map (b :: ·)
  | _ :: _ => none
def intsD : List Dat → Option (List Int)
  | [] => some []
  | .int b :: r => (intsD r).map (b :: ·)
  | _ :: _ => none
def seqs : DV → List Cel → Option (List Dat)
  | .d (.lst ds), _ => some ds
  | .d (.fl ds), _ => some ds
  | .c n, μ => (match μ[n]? with
    | some (.lst ds) => some ds
    | _ => none)
  | _, _ => none
def anyG : Gn
  | [x], μ => (match (seqs x μ).bind bls with
    | some bs => okD (.bl (bs.any id)) μ
    | none => .stuck)
  | _, _ => .stuck
def allG : Gn
  | [x], μ => (match (seqs x μ).bind bls with
    | some bs => okD (.bl (bs.all id)) μ
    | none => .stuck)
  | _, _ => .stuck
def sumG : Gn
  | [x], μ => (match (seqs x μ).bind intsD with
    | some bs => okD (.int bs.sum) μ
    | none => .stuck)
  | _, _ => .stuck
def divmodG : Gn
  | [.d (.int i), .d (.int j)], μ => if 0 < j ∧ j < 1073741824 then okD (.tup [.int (i / j), .int (i % j)]) μ else .stuck
  | _, _ => .stuck
section
variable {K : Fr}
theorem repVs1 {F : Hp} {α : List Addr} {d : DV} {xs : List V} (h : RepVs K F α [d] xs) : ∃ x, xs = [x] ∧ RepV K F α d x := by
  obtain ⟨x, r, rfl, h1, h2⟩ := h
  cases (show r = [] from h2)
  exact ⟨x, rfl, h1⟩
theorem repVs2 {F : Hp} {α : List Addr} {d e : DV} {xs : List V} (h : RepVs K F α [d, e] xs) : ∃ x y, xs = [x, y] ∧ RepV K F α d x ∧ RepV K F α e y := by
  obtain ⟨x, r, rfl, h1, h2⟩ := h
  obtain ⟨y, rfl, h3⟩ := repVs1 h2
  exact ⟨x, y, rfl, h1, h3⟩
/-- what may be walked as a list -/
theorem seqs_of {F H : Hp} {α : List Addr} {μ : List Cel} (m : Mem K F H α μ) : ∀ {d : DV} {x : V} {ds : List Dat}, RepV K F α d x → seqs d μ = some ds → ∃ a xs, x = .ref a ∧ SqL K H a xs ∧ Reps K F ds xs ∧ ds.length ≤ LIM
  | .d (.lst _), _, _, ⟨z, a, xs, r, h, rr⟩, e => by cases r; cases e; exact ⟨a, xs, rfl, SqL.of (m.fz _ _ h), rr, z⟩
  | .d (.fl _), _, _, ⟨z, a, xs, r, h, rr⟩, e => by cases r; cases e; exact ⟨a, xs, rfl, sqL_le m.fz h, rr, z⟩
  | .c n, _, ds, ⟨a, h, r⟩, e => by
    cases r
    have e' : (match μ[n]? with
      | some (.lst ds) => some ds
      | _ => none) = some ds := e
    cases q : μ[n]? with
    | none => rw [q] at e'; cases e'
    | some c =>
      rw [q] at e'
      cases c with
      | lst ds2 =>
        obtain ⟨_, z, xs, h2, rr⟩ := m.ok n _ a q h
        cases e'
        exact ⟨a, xs, rfl, SqL.of h2, rr, z⟩
      | ins _ _ => cases e'
      | dead => cases e'
      | tab _ => cases e'
  | .d .non, _, _, _, e => by cases e
  | .d (.bl _), _, _, _, e => by cases e
  | .d (.int _), _, _, _, e => by cases e
  | .d (.str _), _, _, _, e => by cases e
  | .d (.tup _), _, _, _, e => by cases e
  | .d (.ins _ _), _, _, _, e => by cases e
  | .d .dic, _, _, _, e => by cases e
  | .d (.exn _ _), _, _, _, e => by cases e
  | .d (.cls _), _, _, _, e => by cases e
  | .f _ _ _ _ _ _, _, _, _, e => by cases e
theorem bls_of {F : Hp} : ∀ {ds : List Dat} {xs : List V} {bs : List Bool}, Reps K F ds xs → bls ds = some bs → xs = bs.map V.bl
  | [], _, _, h, e => by cases e; exact h
  | .bl b :: r, _, _, ⟨x, t, e1, h1, h2⟩, e => by
    subst e1
    obtain ⟨l, e2, e3⟩ := Option.map_eq_some_iff.mp (show (bls r).map (b :: ·) = some _ from e)
    subst e3
    cases h1
    rw [bls_of h2 e2]
    rfl
  | .non :: _, _, _, _, e => by cases e
  | .int _ :: _, _, _, _, e => by cases e
  | .str _ :: _, _, _, _, e => by cases e
  | .tup _ :: _, _, _, _, e => by cases e
  | .lst _ :: _, _, _, _, e => by cases e
  | .ins _ _ :: _, _, _, _, e => by cases e
  | .dic :: _, _, _, _, e => by cases e
  | .fl _ :: _, _, _, _, e => by cases e
  | .exn _ _ :: _, _, _, _, e => by cases e
  | .cls _ :: _, _, _, _, e => by cases e
theorem ok_len : CaOk K (fun xs H Q => ∃ x n, xs = [x] ∧ LenV K x H n ∧ Q (.int (n : Nat)) H) lenG := by
  intro F α μ H ds xs Q W m r o
  unfold lenG at o
  split at o
  · rename_i d
    obtain ⟨x, rfl, r1⟩ := repVs1 r
    cases e : lenN d μ with
    | none => rw [e] at o; exact o.elim
    | some n =>
      rw [e] at o
      refine ⟨x, n, rfl, ?_, outI m o⟩
      unfold lenN at e
      split at e
      · obtain ⟨z, rfl⟩ := r1
        cases e
        exact ⟨by rw [sV_len]; exact lim_line z, (sV_len _).symm⟩
      · obtain ⟨z, a, ys, rfl, h, rr⟩ := r1
        cases e
        exact .inr ⟨ys, sqT_le m.fz h, rr.length⟩
      · obtain ⟨z, a, ys, rfl, h, rr⟩ := r1
        cases e
        exact .inl ⟨ys, SqL.of (m.fz _ _ h), rr.length⟩
      · obtain ⟨z, a, ys, rfl, h, rr⟩ := r1
        cases e
        exact .inl ⟨ys, sqL_le m.fz h, rr.length⟩
      · rename_i k
        obtain ⟨a, h, rfl⟩ := r1
        cases q : μ[k]? with
        | none => rw [q] at e; cases e
        | some c =>
          rw [q] at e
          cases c with
          | lst ds2 =>
            obtain ⟨_, z, ys, h2, rr⟩ := m.ok k _ a q h
            cases e
            exact .inl ⟨ys, SqL.of h2, rr.length⟩
          | ins _ _ => cases e
          | dead => cases e
          | tab _ => cases e
      · cases e
  · exact o.elim
theorem ok_abs : CaOk K (fun xs H Q => ∃ i, xs = [.int i] ∧ Q (.int (if i < 0 then -i else i)) H) absG := by
  intro F α μ H ds xs Q W m r o
  unfold absG at o
  split at o
  · obtain ⟨x, rfl, r1⟩ := repVs1 r
    cases r1
    exact ⟨_, rfl, outI m o⟩
  · exact o.elim
theorem ok_max : CaOk K (fun xs H Q => ∃ i j, xs = [.int i, .int j] ∧ Q (.int (if j > i then j else i)) H) maxG := by
  intro F α μ H ds xs Q W m r o
  unfold maxG at o
  split at o
  · obtain ⟨x, y, rfl, r1, r2⟩ := repVs2 r
    cases r1; cases r2
    exact ⟨_, _, rfl, outI m o⟩
  · exact o.elim
theorem ok_min : CaOk K (fun xs H Q => ∃ i j, xs = [.int i, .int j] ∧ Q (.int (if j < i then j else i)) H) minG := by
  intro F α μ H ds xs Q W m r o
  unfold minG at o
  split at o
  · obtain ⟨x, y, rfl, r1, r2⟩ := repVs2 r
    cases r1; cases r2
    exact ⟨_, _, rfl, outI m o⟩
  · exact o.elim
theorem ok_int : CaOk K (fun xs H Q => (∃ i, xs = [.int i] ∧ Q (.int i) H) ∨ ∃ k, xs = [.bl k] ∧ Q (.int (if k then 1 else 0)) H) intG := by
  intro F α μ H ds xs Q W m r o
  unfold intG at o
  split at o
  · obtain ⟨x, rfl, r1⟩ := repVs1 r
    cases r1
    exact .inl ⟨_, rfl, outI m o⟩
  · obtain ⟨x, rfl, r1⟩ := repVs1 r
    cases r1
    exact .inr ⟨_, rfl, outI m o⟩
  · exact o.elim
theorem ok_any : CaOk K (rAny K) anyG := by
  intro F α μ H ds xs Q W m r o
  unfold anyG at o
  split at o
  · rename_i d
    obtain ⟨x, rfl, r1⟩ := repVs1 r
    cases e : seqs d μ with
    | none => rw [e] at o; exact o.elim
    | some es =>
      rw [e] at o
      cases e2 : bls es with
      | none => simp only [Option.bind_some, e2] at o; exact o.elim
      | some bs =>
        simp only [Option.bind_some, e2] at o
        obtain ⟨a, ys, rfl, hl, rr, z⟩ := seqs_of m r1 e
        cases bls_of rr e2
        exact ⟨a, bs, rfl, hl, outB m o⟩
  · exact o.elim
theorem ok_all : CaOk K (rAll K) allG := by
  intro F α μ H ds xs Q W m r o
  unfold allG at o
  split at o
  · rename_i d
    obtain ⟨x, rfl, r1⟩ := repVs1 r
    cases e : seqs d μ with
    | none => rw [e] at o; exact o.elim
    | some es =>
      rw [e] at o
      cases e2 : bls es with
      | none => simp only [Option.bind_some, e2] at o; exact o.elim
      | some bs =>
        simp only [Option.bind_some, e2] at o
        obtain ⟨a, ys, rfl, hl, rr, z⟩ := seqs_of m r1 e
        cases bls_of rr e2
        exact ⟨a, bs, rfl, hl, outB m o⟩
  · exact o.elim
theorem ok_divmod : CaOk K (fun xs H Q => ∃ i j, xs = [.int i, .int j] ∧ CDiv i j ∧ ∀ p, H p = none → Q (.ref p) (upd H p (.tup [.int (i / j), .int (i % j)]))) divmodG := by
  intro F α μ H ds xs Q W m r o
  unfold divmodG at o
  split at o
  · obtain ⟨x, y, rfl, r1, r2⟩ := repVs2 r
    cases r1; cases r2
    split at o
    · rename_i hc
      exact ⟨_, _, rfl, hc, out_tup m (ds := [.int _, .int _]) ⟨_, _, rfl, rfl, _, _, rfl, rfl, rfl⟩ (by show 2 ≤ 16777216; decide) o⟩
    · exact o.elim
  · exact o.elim
end
section
variable {X : Cx} {W : WX} {pos p : Pos} {e : Expr} {es : List Expr} {xs : EXs}
theorem de_len (hg : Gl X "len") (hm : X.mg "len" = none) (ha : DA X W (e :: es) xs) (he : starEach (e :: es) X.env = (false, eval e X.env) :: starEach es X.env := by rfl) (hpl : (backTo pos (starEach es X.env)).any (·.1) = false := by rfl) : DE X W (.Call (.Name "len" p) (e :: es) [] pos) (eN lenG xs) := de_callB call_len ok_len hg hm PySem.boot_len ha (by decide) (by decide) he hpl
theorem de_abs (hg : Gl X "abs") (hm : X.mg "abs" = none) (ha : DA X W (e :: es) xs) (he : starEach (e :: es) X.env = (false, eval e X.env) :: starEach es X.env := by rfl) (hpl : (backTo pos (starEach es X.env)).any (·.1) = false := by rfl) : DE X W (.Call (.Name "abs" p) (e :: es) [] pos) (eN absG xs) := de_callB call_abs ok_abs hg hm boot_abs ha (by decide) (by decide) he hpl
theorem de_max (hc : X.calm = true) (hg : Gl X "max") (hm : X.mg "max" = none) (ha : DA X W (e :: es) xs) (he : starEach (e :: es) X.env = (false, eval e X.env) :: starEach es X.env := by rfl) (hpl : (backTo pos (starEach es X.env)).any (·.1) = false := by rfl) : DE X W (.Call (.Name "max" p) (e :: es) [] pos) (eN maxG xs) := de_callB (call_max2 hc) ok_max hg hm boot_max ha (by decide) (by decide) he hpl
theorem de_min (hc : X.calm = true) (hg : Gl X "min") (hm : X.mg "min" = none) (ha : DA X W (e :: es) xs) (he : starEach (e :: es) X.env = (false, eval e X.env) :: starEach es X.env := by rfl) (hpl : (backTo pos (starEach es X.env)).any (·.1) = false := by rfl) : DE X W (.Call (.Name "min" p) (e :: es) [] pos) (eN minG xs) := de_callB (call_min2 hc) ok_min hg hm boot_min ha (by decide) (by decide) he hpl
theorem de_cint (hg : Gl X "int") (hm : X.mg "int" = none) (ha : DA X W (e :: es) xs) (he : starEach (e :: es) X.env = (false, eval e X.env) :: starEach es X.env := by rfl) (hpl : (backTo pos (starEach es X.env)).any (·.1) = false := by rfl) : DE X W (.Call (.Name "int" p) (e :: es) [] pos) (eN intG xs) := de_callTy call_int1 ok_int hg hm boot_int ha (by decide) (by decide) he hpl
theorem de_any (hc : X.calm = true) (hg : Gl X "any") (hm : X.mg "any" = none) (ha : DA X W (e :: es) xs) (he : starEach (e :: es) X.env = (false, eval e X.env) :: starEach es X.env := by rfl) (hpl : (backTo pos (starEach es X.env)).any (·.1) = false := by rfl) : DE X W (.Call (.Name "any" p) (e :: es) [] pos) (eN anyG xs) := de_callB (cr_any hc) ok_any hg hm (by decide +kernel) ha (by decide) (by decide) he hpl
theorem de_all (hc : X.calm = true) (hg : Gl X "all") (hm : X.mg "all" = none) (ha : DA X W (e :: es) xs) (he : starEach (e :: es) X.env = (false, eval e X.env) :: starEach es X.env := by rfl) (hpl : (backTo pos (starEach es X.env)).any (·.1) = false := by rfl) : DE X W (.Call (.Name "all" p) (e :: es) [] pos) (eN allG xs) := de_callB (cr_all hc) ok_all hg hm (by decide +kernel) ha (by decide) (by decide) he hpl
theorem de_divmod (hg : Gl X "divmod") (hm : X.mg "divmod" = none) (ha : DA X W (e :: es) xs) (he : starEach (e :: es) X.env = (false, eval e X.env) :: starEach es X.env := by rfl) (hpl : (backTo pos (starEach es X.env)).any (·.1) = false := by rfl) : DE X W (.Call (.Name "divmod" p) (e :: es) [] pos) (eN divmodG xs) := de_callB call_divmod ok_divmod hg hm boot_divmod ha (by decide) (by decide) he hpl
end
end DL
set_option Elab.async false
set_option linter.all false
set_option maxRecDepth 100000
set_option maxHeartbeats 4000000
namespace DL
open PySem PySem.Spec PyProof.Rows L2
inductive SOut where
  | nx (ρ : Rho) (μ : List Cel) | rt (v : DV) (μ : List Cel) | raise (e : Exn) (ρ : Rho) (μ : List Cel) | stuck
abbrev SX := Rho → List Cel → SOut
def SOut.bind (o : SOut) (f : Rho → List Cel → SOut) : SOut := match o with
  | .nx ρ μ => f ρ μ
  | .rt v μ => .rt v μ
  | .raise e ρ μ => .raise e ρ μ
  | .stuck => .stuck
@[simp] theorem sbind_nx (ρ : Rho) (μ : List Cel) (f : Rho → List Cel → SOut) : (SOut.nx ρ μ).bind f = f ρ μ := rfl
@[simp] theorem sbind_rt (v : DV) (μ : List Cel) (f : Rho → List Cel → SOut) : (SOut.rt v μ).bind f = .rt v μ := rfl
@[simp] theorem sbind_raise (e : Exn) (ρ : Rho) (μ : List Cel) (f : Rho → List Cel → SOut) : (SOut.raise e ρ μ).bind f = .raise e ρ μ := rfl
@[simp] theorem sbind_stuck (f : Rho → List Cel → SOut) : (SOut.stuck).bind f = .stuck := rfl
/-- an expression's outcome within a statement -/
def Out.sbind {τ : Type} (o : Out τ) (ρ : Rho) (f : τ → List Cel → SOut) : SOut := match o with
  | .ok v μ => f v μ
  | .raise e μ => .raise e ρ μ
  | .stuck => .stuck
@[simp] theorem osbind_ok {τ : Type} (v : τ) (ρ : Rho) (μ : List Cel) (f : τ → List Cel → SOut) : (Out.ok v μ).sbind ρ f = f v μ := rfl
@[simp] theorem osbind_raise {τ : Type} (e : Exn) (ρ : Rho) (μ : List Cel) (f : τ → List Cel → SOut) : (Out.raise e μ : Out τ).sbind ρ f = .raise e ρ μ := rfl
@[simp] theorem osbind_stuck {τ : Type} (ρ : Rho) (f : τ → List Cel → SOut) : (Out.stuck : Out τ).sbind ρ f = .stuck := rfl
/-- what is wanted behind a statement -/
structure Fin (K : Fr) where
  nx : St → Hp → Prop
  rt : VK
  ex : WX
def SOk (K : Fr) (F : Hp) (α : List Addr) (o : SOut) (nx : St → Hp → Prop) (rt : VK) (W : WX) : Prop := match o with
  | .nx ρ' μ' => ∀ σ' F' α' H', Grow F α F' α' → Mem K F' H' α' μ' → Slots K F' α' ρ' σ' → nx σ' H'
  | .rt v μ' => ∀ u F' α' H', Grow F α F' α' → Mem K F' H' α' μ' → RepV K F' α' v u → rt u H'
  | .raise e ρ' μ' => ∀ cls dx σ' F' α' H', Grow F α F' α' → Mem K F' H' α' μ' → Slots K F' α' ρ' σ' → ExnRep K F' e cls dx → W cls dx σ' H'
  | .stuck => False
section
variable {K : Fr} {F F' H : Hp} {α α' : List Addr} {o : SOut} {nx nx' : St → Hp → Prop} {rt : VK} {W : WX}
theorem SOk.grow (g : Grow F α F' α') (h : SOk K F α o nx rt W) : SOk K F' α' o nx rt W := by
  cases o with
  | nx ρ μ => exact fun σ F2 α2 H2 g2 m s => h σ F2 α2 H2 (g.trans g2) m s
  | rt v μ => exact fun u F2 α2 H2 g2 m s => h u F2 α2 H2 (g.trans g2) m s
  | raise e ρ μ => exact fun cls dx σ F2 α2 H2 g2 m s => h cls dx σ F2 α2 H2 (g.trans g2) m s
  | stuck => exact h
theorem SOk.bind {f : Rho → List Cel → SOut} (h : SOk K F α (o.bind f) nx rt W) (k : ∀ ρ σ F1 α1 μ1 H1, Grow F α F1 α1 → Mem K F1 H1 α1 μ1 → Slots K F1 α1 ρ σ → SOk K F1 α1 (f ρ μ1) nx rt W → nx' σ H1) : SOk K F α o nx' rt W := by
  cases o with
  | nx ρ μ => exact fun σ F2 α2 H2 g2 m s => k ρ σ F2 α2 μ H2 g2 m s (SOk.grow g2 h)
  | rt v μ => exact h
  | raise e ρ μ => exact h
  | stuck => exact h
/-- from an expression's outcome -/
theorem SOk.ebind {τ ω : Type} {R : Hp → List Addr → τ → ω → Prop} {o : Out τ} {ρ : Rho} {σ : St} {f : τ → List Cel → SOut} {Q' : ω → Hp → Prop} (s : Slots K F α ρ σ) (h : SOk K F α (o.sbind ρ f) nx rt W)
    (k : ∀ v u F1 α1 μ1 H1, Grow F α F1 α1 → Mem K F1 H1 α1 μ1 → R F1 α1 v u → SOk K F1 α1 (f v μ1) nx rt W → Q' u H1) : OutOk R K F α o Q' (fun cls dx H' => W cls dx σ H') := by
  cases o with
  | ok v μ1 => exact fun u F1 α1 H1 g m r => k v u F1 α1 μ1 H1 g m r (SOk.grow g h)
  | raise e μ1 => exact fun cls dx F1 α1 H1 g m r => h cls dx σ F1 α1 H1 g m (s.grow g) r
  | stuck => exact h
theorem SOk.here {ρ : Rho} {σ : St} {μ : List Cel} (h : SOk K F α (.nx ρ μ) nx rt W) (m : Mem K F H α μ) (s : Slots K F α ρ σ) : nx σ H := h σ F α H Grow.refl m s
end
/-- the reading of code that does g -/
def tS (K : Fr) (W : WX) (g : SX) : TS := fun D σ H => ∃ F α ρ μ, Mem K F H α μ ∧ Slots K F α ρ σ ∧ SOk K F α (g ρ μ) D.nx D.rt W
structure DS (X : Cx) (W : WX) (st : Stmt) (g : SX) : Prop where
  ps : PS X st (tS X.K W g)
structure DSs (X : Cx) (W : WX) (st : List Stmt) (g : SX) : Prop where
  pss : PSs X st (tS X.K W g)
def sSkip : SX := fun ρ μ => .nx ρ μ
def sSeq (a b : SX) : SX := fun ρ μ => (a ρ μ).bind b
def sIf (c : TX) (a b : SX) : SX := fun ρ μ => (c ρ μ).sbind ρ fun x μ => if x then a ρ μ else b ρ μ
def sRet (e : EX) : SX := fun ρ μ => (e ρ μ).sbind ρ fun v μ => .rt v μ
def sRetN : SX := fun ρ μ => .rt (.d .non) μ
def sDo (e : EX) : SX := fun ρ μ => (e ρ μ).sbind ρ fun _ μ => .nx ρ μ
/-- a target: what a value does to the slots and the cells -/
abbrev GX := DV → Rho → List Cel → SOut
def gN (i : Nat) : GX := fun v ρ μ => .nx (ρ.set i (some v)) μ
def sAsg (e : EX) (g : GX) : SX := fun ρ μ => (e ρ μ).sbind ρ fun v μ => g v ρ μ
def sNever : SX := fun _ _ => .stuck
def tGX (K : Fr) (W : WX) (g : GX) : TG := fun x σ H Q => ∃ F α ρ μ v rt, Mem K F H α μ ∧ Slots K F α ρ σ ∧ RepV K F α v x ∧ SOk K F α (g v ρ μ) Q rt W
structure DG (X : Cx) (W : WX) (e : Expr) (g : GX) : Prop where
  pg : PG X e (tGX X.K W g)
theorem PG.of {X : Cx} {e : Expr} {t t' : TG} (h : PG X e t) (i : ∀ v σ H Q, t' v σ H Q → t v σ H Q) : PG X e t' := ⟨fun pins s σ H v u Q I r hw => h.run pins s σ H v u Q I r (i v σ H Q hw)⟩
section
variable {X : Cx} {W : WX} {pos : Pos} {st : Stmt} {sts : List Stmt} {g g' : SX} {e c : Expr} {x : EX} {t : TX}
theorem dss_nil : DSs X W [] sSkip := ⟨PSs.of pss_nil fun D σ H ⟨F, α, ρ, μ, m, s, o⟩ => SOk.here o m s⟩
theorem dss_cons (h : DS X W st g) (hs : DSs X W sts g') : DSs X W (st :: sts) (sSeq g g') := ⟨PSs.of (pss_cons h.ps hs.pss) fun D σ H ⟨F, α, ρ, μ, m, s, o⟩ =>
  ⟨F, α, ρ, μ, m, s, SOk.bind o fun ρ1 σ1 F1 α1 μ1 H1 g1 m1 s1 o1 => ⟨F1, α1, ρ1, μ1, m1, s1, o1⟩⟩⟩
theorem ds_if {a b : List Stmt} (hc : DT X W c t) (ha : DSs X W a g) (hb : DSs X W b g') : DS X W (.If c a b pos) (sIf t g g') := by
  refine ⟨PS.of (ps_if hc.pt ha.pss hb.pss) fun D σ H ⟨F, α, ρ, μ, m, s, o⟩ => tX_mk m s (SOk.ebind s o fun v u F1 α1 μ1 H1 g1 m1 r1 o1 => ?_)⟩
  cases (show u = v from r1)
  cases v with
  | true => exact iteT ⟨F1, α1, ρ, μ1, m1, s.grow g1, o1⟩
  | false => exact iteF ⟨F1, α1, ρ, μ1, m1, s.grow g1, o1⟩
theorem ds_ret (he : DE X W e x) : DS X W (.Return (some e) pos) (sRet x) :=
  ⟨PS.of (ps_ret he.pe) fun D σ H ⟨F, α, ρ, μ, m, s, o⟩ => tX_mk m s (SOk.ebind s o fun v u F1 α1 μ1 H1 g1 m1 r1 o1 => o1 u F1 α1 H1 Grow.refl m1 r1)⟩
/-- name = e -/
theorem ds_set (i : Nat) {y : Str} {p2 : Pos} (hN : X.N.Nodup) (he : DE X W e x) (hi : X.N[i]? = some y := by rfl) (hx : Loc X.env.scope y := by first | exact .inl rfl | exact .inr rfl) (hs : swapsWith e (some (.Name y p2)) pos.line X.env = pure false := by rfl)
    (hf : X.fn y = true ∨ X.env.scope.names.lookup y = some .local := by first | exact .inl rfl | exact .inr rfl | assumption) : DS X W (.Assign [.Name y p2] e pos) (sAsg x (gN i)) :=
  ⟨PS.of (ps_set hN hi hx he.pe hs hf) fun D σ H ⟨F, α, ρ, μ, m, s, o⟩ => tX_mk m s (SOk.ebind s o fun v u F1 α1 μ1 H1 g1 m1 r1 o1 => SOk.here o1 m1 ((s.grow g1).set i r1))⟩
/-- target = e -/
theorem ds_asg {tg : Expr} {gt : GX} (he : DE X W e x) (hg : DG X W tg gt) (hs : swapsWithSole [tg] e pos.line X.env = pure false := by rfl) (hw : swappedStores [tg] e X.env = pure none := by rfl)
    (h1 : (assignEach [tg] X.env).map (·.2) = [assign tg X.env] := by rfl) : DS X W (.Assign [tg] e pos) (sAsg x gt) := by
  refine ⟨PS.of (ps_asg he.pe hg.pg hs hw h1) fun D σ H ⟨F, α, ρ, μ, m, s, o⟩ => tX_mk m s (SOk.ebind s o fun v u F1 α1 μ1 H1 g1 m1 r1 o1 => ?_)⟩
  exact ⟨F1, α1, ρ, μ1, v, _, m1, s.grow g1, r1, o1⟩
theorem dg_n (i : Nat) {y : Str} (hN : X.N.Nodup) (hi : X.N[i]? = some y := by rfl) (hx : Loc X.env.scope y := by first | exact .inl rfl | exact .inr rfl) (hf : X.fn y = true ∨ X.env.scope.names.lookup y = some .local := by first | exact .inl rfl | exact .inr rfl | assumption) : DG X W (.Name y pos) (gN i) :=
  ⟨PG.of (pg_name hN hi hx hf) fun u σ H Q ⟨F, α, ρ, μ, v, rt, m, s, r, o⟩ => SOk.here o m (s.set i r)⟩
end
abbrev GXs := List Dat → Rho → List Cel → SOut
def gsN : GXs := fun vs ρ μ => match vs with
  | [] => .nx ρ μ
  | _ => .stuck
def gsC (g : GX) (gs : GXs) : GXs := fun vs ρ μ => match vs with
  | v :: r => (g (.d v) ρ μ).bind (gs r)
  | [] => .stuck
def gT (n : Nat) (gs : GXs) : GX := fun v ρ μ => match v with
  | .d (.tup ds) => if ds.length = n then gs ds ρ μ else .stuck
  | _ => .stuck
def tGXs (K : Fr) (W : WX) (g : GXs) : TGs := fun xs σ H Q => ∃ F α ρ μ vs rt, Mem K F H α μ ∧ Slots K F α ρ σ ∧ Reps K F vs xs ∧ SOk K F α (g vs ρ μ) Q rt W
structure DGs (X : Cx) (W : WX) (es : List Expr) (g : GXs) : Prop where
  pgs : PGs X es (tGXs X.K W g)
theorem PGs.of {X : Cx} {e : List Expr} {t t' : TGs} (h : PGs X e t) (i : ∀ v σ H Q, t' v σ H Q → t v σ H Q) : PGs X e t' := ⟨fun pins s σ H v u Q I r hw => h.run pins s σ H v u Q I r (i v σ H Q hw)⟩
/-- o[i] = v: a list's cell -/
def setIx (o i v : DV) (ρ : Rho) (μ : List Cel) : SOut := match o, i, v with
  | .c n, .d (.int k), .d x => (match μ[n]? with
    | some (.lst ds) => (match ixN ds.length k with
      | some j => .nx ρ (μ.set n (.lst (ds.set j x)))
      | none => .stuck)
    | _ => .stuck)
  | _, _, _ => .stuck
def gIx (o i : EX) : GX := fun v ρ μ => (o ρ μ).sbind ρ fun ov μ => (i ρ μ).sbind ρ fun iv μ => setIx ov iv v ρ μ
section
variable {X : Cx} {W : WX} {pos : Pos} {e : Expr} {es : List Expr} {g : GX} {gs : GXs}
theorem dgs_nil : DGs X W [] gsN := ⟨PGs.of pgs_nil fun xs σ H Q ⟨F, α, ρ, μ, vs, rt, m, s, r, o⟩ => by
  cases vs with
  | nil => exact ⟨r, SOk.here o m s⟩
  | cons v vs => exact o.elim⟩
theorem dgs_cons (h : DG X W e g) (hs : DGs X W es gs) (hst : (assignEach (e :: es) X.env).map (·.2) = assign e X.env :: (assignEach es X.env).map (·.2) := by rfl) : DGs X W (e :: es) (gsC g gs) := ⟨PGs.of (pgs_cons h.pg hs.pgs hst) fun xs σ H Q ⟨F, α, ρ, μ, vs, rt, m, s, r, o⟩ => by
  cases vs with
  | nil => exact o.elim
  | cons v vs =>
    obtain ⟨x, xr, e1, r1, r2⟩ := r
    subst e1
    refine ⟨x, xr, rfl, ⟨F, α, ρ, μ, .d v, rt, m, s, r1, SOk.bind o fun ρ1 σ1 F1 α1 μ1 H1 g1 m1 s1 o1 => ?_⟩⟩
    exact ⟨F1, α1, ρ1, μ1, vs, rt, m1, s1, r2.le g1.f, o1⟩⟩
theorem dg_tup {k n : Nat} (hc : X.calm = true) (h : DGs X W es gs) (hn : (assignEach es X.env).length = n := by rfl) (hst : (assignEach es X.env).findIdx? (·.1) = none := by rfl) : DG X W (.Tuple es k pos) (gT n gs) := ⟨PG.of (pg_tup hc h.pgs hn hst) fun x σ H Q ⟨F, α, ρ, μ, v, rt, m, s, r, o⟩ => by
  unfold gT at o
  split at o
  · obtain ⟨z, a, xs, rfl, hx, rr⟩ := r
    split at o
    · rename_i hl
      exact ⟨a, xs, rfl, sqT_le m.fz hx, by rw [← rr.length]; exact hl, F, α, ρ, μ, _, rt, m, s, rr, o⟩
    · exact o.elim
  · exact o.elim⟩
theorem dg_ix {o i : Expr} {xo xi : EX} (ho : DE X W o xo) (hi : DE X W i xi) (ha : ∀ v, assign (.Subscript o i pos) X.env v = (do
      let ov ← holding [v] (eval o X.env)
      let iv ← holding [v, ov] (eval i X.env)
      standAt pos
      holding [v, ov, iv] (setItem ov iv v)
      release [v, ov, iv] []) := by intro _; rfl) : DG X W (.Subscript o i pos) (gIx xo xi) := by
  refine ⟨PG.of (pg_sub ho.pe hi.pe set_list ha) fun x σ H Q ⟨F, α, ρ, μ, v, rt, m, s, r, o⟩ => ?_⟩
  refine tX_mk m s (SOk.ebind s o fun ov ou F1 α1 μ1 H1 g1 m1 r1 o1 => ?_)
  refine tX_mk m1 (s.grow g1) (SOk.ebind (s.grow g1) o1 fun iv iu F2 α2 μ2 H2 g2 m2 r2 o2 => ?_)
  unfold setIx at o2
  split at o2
  · rename_i n k x'
    obtain ⟨a, ha, rfl⟩ := r1.grow g2
    cases r2
    cases q : μ2[n]? with
    | none => rw [q] at o2; exact o2.elim
    | some c =>
      rw [q] at o2
      cases c with
      | lst ds =>
        obtain ⟨h0, z, xs, hx, rr⟩ := m2.ok n _ a q ha
        simp only at o2
        cases e : ixN ds.length k with
        | none => rw [e] at o2; exact o2.elim
        | some j =>
          rw [e] at o2
          have rx : Rep X.K F2 x' x := (r.grow (g1.trans g2))
          refine ⟨a, xs, _, j, rfl, rfl, hx, by rw [← rr.length]; exact e, ?_⟩
          have m3 := m2.write (o := .lst (xs.set j x)) (c := .lst (ds.set j x')) ha h0 ⟨h0, by rw [List.length_set]; exact z, _, upd_same, rr.set rx j⟩
          exact SOk.here o2 m3 (s.grow (g1.trans g2))
      | ins _ _ => exact o2.elim
      | dead => exact o2.elim
      | tab _ => exact o2.elim
  · exact o2.elim
end
def forL (g : GX) (b : SX) : List Dat → SX
  | [], ρ, μ => .nx ρ μ
  | d :: ds, ρ, μ => ((g (.d d) ρ μ).bind b).bind (forL g b ds)
/-- what a for walks: the items -/
abbrev IX := Rho → List Cel → Out (List Dat)
def sFor (it : IX) (g : GX) (b : SX) : SX := fun ρ μ => (it ρ μ).sbind ρ fun ds μ => forL g b ds ρ μ
/-- the iterator J gives the items ds, whatever grows -/
structure Gives (K : Fr) (F : Hp) (J : It) (ds : List Dat) : Prop where
  go : ∀ (i : Nat) (H : Hp), Le F H → i < ds.length → J.go i H
  stop : ∀ (i : Nat) (H : Hp), Le F H → i = ds.length → J.stop i H
  yld : ∀ (i : Nat) (H H' : Hp) (x : V) (F1 : Hp) (α : List Addr) (μ : List Cel), Le F F1 → Mem K F1 H α μ → i < ds.length → J.yld i H x H' → ∃ F2 d, ds[i]? = some d ∧ Grow F1 α F2 α ∧ Mem K F2 H' α μ ∧ Rep K F2 d x
def tIX (K : Fr) (W : WX) (it : IX) : TI := fun σ H R => ∃ F α ρ μ, Mem K F H α μ ∧ Slots K F α ρ σ ∧ (match it ρ μ with
  | .ok ds μ' => ∀ F' α' H' J, Grow F α F' α' → Mem K F' H' α' μ' → Gives K F' J ds → R J H'
  | .raise e μ' => ∀ cls dx F' α' H', Grow F α F' α' → Mem K F' H' α' μ' → ExnRep K F' e cls dx → W cls dx σ H'
  | .stuck => False)
structure DI (X : Cx) (W : WX) (tg iter : Expr) (it : IX) : Prop where
  pi : PI X tg iter (tIX X.K W it)
theorem PI.of {X : Cx} {tg e : Expr} {t t' : TI} (h : PI X tg e t) (i : ∀ σ H R, t' σ H R → t σ H R) : PI X tg e t' := ⟨fun pins s σ H R I hw => h.run pins s σ H R I (i σ H R hw)⟩
theorem ds_for {X : Cx} {W : WX} {pos : Pos} {tg iter : Expr} {body : List Stmt} {it : IX} {g : GX} {b : SX} (hp : PassesOwn (model X.prog X.w) X.A X.env X.xe) (hc : X.calm = true) (hi : DI X W tg iter it) (hg : DG X W tg g) (hb : DSs X W body b)
    (hs : ∀ x, foldedSetIterable iter X.env x = pure x := by intro _; rfl) : DS X W (.For tg iter body [] pos) (sFor it g b) := by
  refine ⟨PS.of (ps_for hp hc hi.pi hg.pg hb.pss hs) fun D σ H ⟨F, α, ρ, μ, m, s, o⟩ => ?_⟩
  have o : SOk X.K F α ((it ρ μ).sbind ρ fun ds μ => forL g b ds ρ μ) D.nx D.rt W := o
  refine ⟨F, α, ρ, μ, m, s, ?_⟩
  cases q : it ρ μ with
  | stuck => rw [q] at o; exact o
  | raise e μ1 => rw [q] at o; exact fun cls dx F1 α1 H1 g1 m1 r => o cls dx σ F1 α1 H1 g1 m1 (s.grow g1) r
  | ok ds μ1 =>
    rw [q] at o
    intro F1 α1 H1 J g1 m1 gv
    have o : SOk X.K F α (forL g b ds ρ μ1) D.nx D.rt W := o
    refine ⟨fun i mm σ H => mm = ds.length - i ∧ i ≤ ds.length ∧ ∃ F2 α2 ρ2 μ2, Le F1 F2 ∧ Mem X.K F2 H α2 μ2 ∧ Slots X.K F2 α2 ρ2 σ ∧ SOk X.K F2 α2 (forL g b (ds.drop i) ρ2 μ2) D.nx D.rt W, ⟨ds.length, by simp, Nat.zero_le _, F1, α1, ρ, μ1, Le.refl _, m1, s.grow g1, by rw [List.drop_zero]; exact SOk.grow g1 o⟩, ?_⟩
    rintro i mm σ H ⟨rfl, hi, F2, α2, ρ2, μ2, l2, m2, s2, o2⟩
    by_cases hlt : i < ds.length
    · refine .inr ⟨gv.go i H (l2.trans m2.fz) hlt, fun σ' H' => ∃ F3 α3 ρ3 μ3, Le F1 F3 ∧ Mem X.K F3 H' α3 μ3 ∧ Slots X.K F3 α3 ρ3 σ' ∧ SOk X.K F3 α3 (forL g b (ds.drop (i + 1)) ρ3 μ3) D.nx D.rt W, fun σ' H' h => ⟨ds.length - (i + 1), by omega, rfl, hlt, h⟩, fun x H' y => ?_⟩
      obtain ⟨F3, d, hd, g3, m3, r3⟩ := gv.yld i H H' x F2 α2 μ2 l2 m2 hlt y
      have ed : ds.drop i = d :: ds.drop (i + 1) := by
        rw [List.drop_eq_getElem_cons hlt]
        rw [List.getElem?_eq_getElem hlt] at hd
        rw [Option.some.inj hd]
      rw [ed] at o2
      have o3 : SOk X.K F3 α2 (((g (.d d) ρ2 μ2).bind b).bind (forL g b (ds.drop (i + 1)))) D.nx D.rt W := SOk.grow g3 o2
      have o4 : SOk X.K F3 α2 ((g (.d d) ρ2 μ2).bind fun ρ μ => (b ρ μ).bind (forL g b (ds.drop (i + 1)))) D.nx D.rt W := by
        cases qq : g (.d d) ρ2 μ2 <;> rw [qq] at o3 <;> exact o3
      refine ⟨F3, α2, ρ2, μ2, .d d, D.rt, m3, s2.grow g3, r3, SOk.bind o4 fun ρ5 σ5 F5 α5 μ5 H5 g5 m5 s5 o5 => ?_⟩
      refine ⟨F5, α5, ρ5, μ5, m5, s5, SOk.bind o5 fun ρ6 σ6 F6 α6 μ6 H6 g6 m6 s6 o6 => ?_⟩
      exact ⟨F6, α6, ρ6, μ6, l2.trans (g3.f.trans (g5.f.trans g6.f)), m6, s6, o6⟩
    · have e : i = ds.length := by omega
      refine .inl ⟨gv.stop i H (l2.trans m2.fz) e, ?_⟩
      rw [e, List.drop_length] at o2
      exact SOk.here o2 m2 s2
def sPar2 (i j : Nat) (as : EXs) : SX := fun ρ μ => (as ρ μ).sbind ρ fun vs μ => match vs with
  | [v, w] => .nx ((ρ.set i (some v)).set j (some w)) μ
  | _ => .stuck
def sPar3 (i j l : Nat) (as : EXs) : SX := fun ρ μ => (as ρ μ).sbind ρ fun vs μ => match vs with
  | [u, v, w] => .nx (((ρ.set i (some u)).set j (some v)).set l (some w)) μ
  | _ => .stuck
section
variable {X : Cx} {W : WX} {pos : Pos} {xs : EXs}
theorem ds_par2 (i j : Nat) {x y : Str} {a b : Expr} {px py pt : Pos} {kt k2 pt2} (hc : X.calm = true) (hN : X.N.Nodup) (ha : DA X W [a, b] xs) (hij : i ≠ j := by decide) (hi : X.N[i]? = some x := by rfl) (hj : X.N[j]? = some y := by rfl)
    (hx : X.env.scope.names.lookup x = some .local := by rfl) (hy : X.env.scope.names.lookup y = some .local := by rfl)
    (hw : swappedStores [.Tuple [.Name x px, .Name y py] kt pt] (.Tuple [a, b] k2 pt2) X.env = pure (some [x, y]) := by rfl)
    (hs : swapsWithSole [.Tuple [.Name x px, .Name y py] kt pt] (.Tuple [a, b] k2 pt2) pos.line X.env = pure false := by rfl) : DS X W (.Assign [.Tuple [.Name x px, .Name y py] kt pt] (.Tuple [a, b] k2 pt2) pos) (sPar2 i j xs) := by
  refine ⟨PS.of (ps_par hc hN hi hj hij hx hy ha.pa hw hs) fun D σ H ⟨F, α, ρ, μ, m, s, o⟩ => tX_mk m s (SOk.ebind (R := RVs X.K) s o fun v u F1 α1 μ1 H1 g1 m1 r1 o1 => ?_)⟩
  split at o1
  · obtain ⟨v1, v2, rfl, r1, r2⟩ : ∃ v1 v2, u = [v1, v2] ∧ RepV X.K F1 α1 _ v1 ∧ RepV X.K F1 α1 _ v2 := by
      obtain ⟨v1, _, rfl, q1, v2, _, rfl, q2, e⟩ := r1
      cases (show _ = [] from e)
      exact ⟨v1, v2, rfl, q1, q2⟩
    exact ⟨v1, v2, rfl, SOk.here o1 m1 (((s.grow g1).set i r1).set j r2)⟩
  · exact o1.elim
end
end DL
set_option Elab.async false
set_option linter.all false
set_option maxRecDepth 100000
set_option maxHeartbeats 4000000
namespace DL
open PySem PySem.Spec PyProof.Rows L2
/-- no cell names a cell at n or behind -/
def refsLt (n : Nat) : List (Nat × DV) → Bool
  | [] => true
  | (_, .d _) :: r => refsLt n r
  | (_, .c j) :: r => decide (j < n) && refsLt n r
  | (_, .f _ _ _ j _ _) :: r => decide (j < n) && refsLt n r
def celLt (n : Nat) : Cel → Bool
  | .lst _ => true
  | .dead => true
  | .tab _ => true
  | .ins _ fs => refsLt n fs
def cutM (n : Nat) (μ : List Cel) : List Cel := if (μ.take n).all (celLt n) = true then μ.take n else μ
def datF : List (Nat × DV) → Option (List (Nat × Dat))
  | [] => some []
  | (f, .d x) :: r => (datF r).map ((f, x) :: ·)
  | (_, .c _) :: _ => none
  | (_, .f _ _ _ _ _ _) :: _ => none
/-- what a def hands back: frz, a cell is frozen -/
def finV (frz : Bool) (n : Nat) (v : DV) (μ : List Cel) : Out DV := match v with
  | .d x => .ok (.d x) (cutM n μ)
  | .f _ _ _ _ _ _ => .stuck
  | .c j => (match frz with
    | false => .ok (.c j) μ
    | true => (match μ[j]? with
      | some (.lst ds) => .ok (.d (.lst ds)) (cutM n (μ.set j .dead))
      | some (.ins c fs) => (match datF fs with
        | some gs => .ok (.d (.ins c gs)) (cutM n (μ.set j .dead))
        | none => .stuck)
      | _ => .stuck))
def fin (frz : Bool) (n : Nat) : SOut → Out DV
  | .nx _ μ => .ok (.d .non) (cutM n μ)
  | .rt v μ => finV frz n v μ
  | .raise e _ μ => .raise e (cutM n μ)
  | .stuck => .stuck
def rho0 (N : Nat) (ds : List DV) : Rho := ds.map some ++ List.replicate (N - ds.length) none
def fnG (frz : Bool) (N : Nat) (b : SX) : Gn := fun ds μ => fin frz μ.length (b (rho0 N ds) μ)
section
variable {K : Fr} {F F' H H' : Hp} {α α' : List Addr} {μ μ' : List Cel}
theorem repVF_cut {n : Nat} : ∀ {fs : List (Nat × DV)} {fv : List (Str × V)}, refsLt n fs = true → RepVF K F α fs fv → RepVF K F (α.take n) fs fv
  | [], _, _, h => h
  | (f, .d x) :: r, _, e, ⟨v, t, e1, h1, h2⟩ => ⟨v, t, e1, h1, repVF_cut (by simpa [refsLt] using e) h2⟩
  | (f, .c j) :: r, _, e, ⟨v, t, e1, ⟨a, ha, h1⟩, h2⟩ => by
    have e' : j < n ∧ refsLt n r = true := by simpa [refsLt] using e
    exact ⟨v, t, e1, ⟨a, by rw [List.getElem?_take_of_lt e'.1]; exact ha, h1⟩, repVF_cut e'.2 h2⟩
  | (f, .f _ _ _ j _ _) :: r, _, e, ⟨v, t, e1, ⟨q1, q2, p, us, q3, q4, q5⟩, h2⟩ => by
    have e' : j < n ∧ refsLt n r = true := by simpa [refsLt] using e
    exact ⟨v, t, e1, ⟨q1, q2, p, us, by rw [List.getElem?_take_of_lt e'.1]; exact q3, q4, q5⟩, repVF_cut e'.2 h2⟩
theorem Mem.cut {n : Nat} (m : Mem K F H α μ) (h : (μ.take n).all (celLt n) = true) : Mem K F H (α.take n) (μ.take n) := by
  refine ⟨m.fz, by simp [m.len], m.nd.sublist (List.take_sublist _ _), fun k c a h1 h2 => ?_⟩
  have hk : k < n := by
    have := (List.getElem?_eq_some_iff.mp h1).1
    rw [List.length_take] at this
    omega
  have hc : celLt n c = true := (List.all_eq_true.mp h) c (List.mem_of_getElem? h1)
  rw [List.getElem?_take_of_lt hk] at h1 h2
  have z := m.ok k c a h1 h2
  cases c with
  | lst ds => exact z
  | dead => exact z
  | tab _ => exact z
  | ins c fs =>
    obtain ⟨h0, dx, fv, q, r⟩ := z
    exact ⟨h0, dx, fv, q, repVF_cut hc r⟩
theorem Mem.cutM {n : Nat} (m : Mem K F' H α' μ') (g : Grow F α F' α') (hn : n = α.length) : ∃ α2, Grow F α F' α2 ∧ Mem K F' H α2 (cutM n μ') := by
  unfold DL.cutM
  split
  · rename_i h
    refine ⟨α'.take n, ⟨g.f, [], ?_⟩, m.cut h⟩
    obtain ⟨t, e⟩ := g.a
    rw [e, hn, List.take_left', List.append_nil]
    rfl
  · exact ⟨α', g, m⟩
theorem repF_of : ∀ {fs : List (Nat × DV)} {fv : List (Str × V)} {gs : List (Nat × Dat)}, RepVF K F α fs fv → datF fs = some gs → RepF K F gs fv
  | [], _, _, h, e => by cases e; exact h
  | (f, .d x) :: r, _, _, ⟨v, t, e1, h1, h2⟩, e => by
    obtain ⟨l, e2, e3⟩ := Option.map_eq_some_iff.mp (show (datF r).map ((f, x) :: ·) = some _ from e)
    subst e3
    exact ⟨v, t, e1, h1, repF_of h2 e2⟩
  | (_, .c _) :: _, _, _, _, e => by cases e
  | (_, .f _ _ _ _ _ _) :: _, _, _, _, e => by cases e
/-- from what the caller wants to what the body is to reach -/
theorem fin_ok {frz : Bool} {Q : VK} {E : XK} {o : SOut} (m : Mem K F H α μ) (h : OutOk (RV K) K F α (fin frz μ.length o) Q E) : SOk K F α o (fun _ H' => Q .non H') Q (fun cls dx _ H' => E cls dx H') := by
  have hn : μ.length = α.length := m.len.symm
  cases o with
  | stuck => exact h
  | nx ρ μ1 =>
    intro σ' F1 α1 H1 g1 m1 s1
    obtain ⟨α2, g2, m2⟩ := m1.cutM g1 hn
    exact h .non F1 α2 H1 g2 m2 rfl
  | raise e ρ μ1 =>
    intro cls dx σ' F1 α1 H1 g1 m1 s1 r1
    obtain ⟨α2, g2, m2⟩ := m1.cutM g1 hn
    exact h cls dx F1 α2 H1 g2 m2 r1
  | rt v μ1 =>
    intro u F1 α1 H1 g1 m1 r1
    have h : OutOk (RV K) K F α (finV frz μ.length v μ1) Q E := h
    unfold finV at h
    cases v with
    | d x =>
      obtain ⟨α2, g2, m2⟩ := m1.cutM g1 hn
      exact h u F1 α2 H1 g2 m2 r1
    | f _ _ _ _ _ _ => exact h.elim
    | c j =>
      cases frz with
      | false => exact h u F1 α1 H1 g1 m1 r1
      | true =>
        simp only at h
        cases q : μ1[j]? with
        | none => rw [q] at h; exact h.elim
        | some c =>
          rw [q] at h
          obtain ⟨a, ha, rfl⟩ := r1
          cases c with
          | dead => exact h.elim
          | tab _ => exact h.elim
          | lst ds =>
            obtain ⟨h0, z, xs, hx, rr⟩ := m1.ok j _ a q ha
            obtain ⟨m2, g2⟩ := m1.freeze ha h0 hx
            obtain ⟨α2, g3, m3⟩ := m2.cutM (g1.trans g2) hn
            exact h (.ref a) _ α2 H1 g3 m3 ⟨z, a, xs, rfl, upd_same, rr.le g2.f⟩
          | ins c fs =>
            obtain ⟨h0, dx, fv, hx, rr⟩ := m1.ok j _ a q ha
            cases e : datF fs with
            | none => simp only [e] at h; exact h.elim
            | some gs =>
              simp only [e] at h
              obtain ⟨m2, g2⟩ := m1.freeze ha h0 hx
              obtain ⟨α2, g3, m3⟩ := m2.cutM (g1.trans g2) hn
              exact h (.ref a) _ α2 H1 g3 m3 ⟨a, dx, fv, rfl, upd_same, RepF.le g2.f (repF_of rr e)⟩
theorem slots0 {N : List Str} {ds : List DV} {vs : List V} (r : RepVs K F α ds vs) : Slots K F α (rho0 N.length ds) (L2.start N vs) := by
  have hl := r.length
  refine ⟨by unfold rho0 L2.start; simp [hl], fun i v h => ?_⟩
  unfold rho0 at h
  by_cases hi : i < ds.length
  · rw [List.getElem?_append_left (by simpa using hi), List.getElem?_map] at h
    cases e : ds[i]? with
    | none => rw [e] at h; cases h
    | some d =>
      rw [e] at h
      cases h
      obtain ⟨x, hx, rx⟩ := r.got e
      refine ⟨x, ?_, rx⟩
      unfold L2.start
      rw [List.getElem?_append_left (by simp; omega), List.getElem?_map, hx]
      rfl
  · rw [List.getElem?_append_right (by simpa using hi), List.getElem?_replicate] at h
    split at h <;> cases h
end
/-- the context of a def's body -/
abbrev cxB (P : Program) (w : World) (K : Fr) (mg : Str → Option Value) (base : Heap) (N : List Str) (qual : Str) (scope : Scope) (f : Addr) (cd : Value) (A : Around) (outer : List Env) (s : Shared) (H : Hp) (E : XK) : Cx := cxOf (L2N.CX P w) P w K mg base N qual scope f cd A outer s H E
abbrev WB (E : XK) : WX := fun cls d _ H => E cls d H
section
variable {P : Program} {w : World} {K : Fr} {mg : Str → Option Value} {base : Heap} {N : List Str} {qual : Str} {scope : Scope} {f : Addr} {cd : Value} {A : Around} {outer : List Env} {s : Shared} {H : Hp} {E : XK}
theorem takesB : L2N.Takes (cxB P w K mg base N qual scope f cd A outer s H E) (WB E) :=
  L2N.takes_of (X := cxB P w K mg base N qual scope f cd A outer s H E) (E₁ := fun e' s'' => L2N.CX P w outer H s E e' s'') rfl rfl rfl rfl
theorem passB : PassesOwn (model P w) (cxB P w K mg base N qual scope f cd A outer s H E).A (cxB P w K mg base N qual scope f cd A outer s H E).env (cxB P w K mg base N qual scope f cd A outer s H E).xe :=
  passes_of (X := cxB P w K mg base N qual scope f cd A outer s H E) rfl
end
/-- room, and no repr is on its way -/
structure RoomG (k : Nat) (A : Around) : Prop where
  r : Room k A
  g : A.guards = some []
theorem RoomG.mono {j k : Nat} {A : Around} (r : RoomG k A) (h : j ≤ k) : RoomG j A := ⟨r.r.mono h, r.g⟩
theorem RoomG.deeper {k : Nat} {A : Around} (r : RoomG (k + 1) A) (env : Env) : RoomG k (A.deeper env) := ⟨r.r.deeper env, r.g⟩
theorem RoomG.make {k : Nat} {A : Around} (r : RoomG (k + 1) A) (C : Addr) (us : List Value) (kw : List (Str × Value)) : RoomG k (A.under (.builtin "type.__call__" ⟨.ref C :: us, kw⟩)) :=
  ⟨r.r.make C us kw, by simp [Around.under, Code.guards, Code.isGuard, guardIds, pushGuards, r.g]⟩
/-- the bodies' condition -/
def BodyOk (P : Program) (w : World) (K : Fr) (mg : Str → Option Value) (base : Heap) (k : Nat) (N : List Str) (qual : Str) (scope : Scope) (f : Addr) (body : List Stmt) (b : SX) : Prop :=
  ∀ (cd : Value) (A : Around) (outer : List Env) (s : Shared) (H : Hp) (E : XK), RoomG k (cxB P w K mg base N qual scope f cd A outer s H E).A → DSs (cxB P w K mg base N qual scope f cd A outer s H E) (WB E) body b
/-- a callable thing at f: n positional arguments, the keywords ks, g what it computes -/
def CD (P : Program) (w : World) (K : Fr) (mg : Str → Option Value) (base : Heap) (k : Nat) (f : Value) (n : Nat) (ks : List Str) (g : Gn) : Prop :=
  ∀ (A : Around) (outer : List Env) (s : Shared) (H : Hp) (us ws : List Value) (vs zs : List V) (Q : VK) (E : XK) (F : Hp) (α : List Addr) (μ : List Cel) (ds : List DV), RoomG k A → Env0 P w K mg base A outer s H → Vals vs us → Vals zs ws → vs.length = n → zs.length = ks.length →
    Mem K F H α μ → RepVs K F α ds (vs ++ zs) → OutOk (RV K) K F α (g ds μ) Q E → codeAny (model P w) A (.call f ⟨us, ks.zip ws⟩) (CR (L2N.CX P w) outer P w H s Q E) s
theorem CD.mono {P : Program} {w : World} {K : Fr} {mg : Str → Option Value} {base : Heap} {j k : Nat} {f : Value} {n : Nat} {ks : List Str} {g : Gn} (c : CD P w K mg base j f n ks g) (h : j ≤ k) : CD P w K mg base k f n ks g :=
  fun A outer s H us ws vs zs Q E F α μ ds hr => c A outer s H us ws vs zs Q E F α μ ds (hr.mono h)
/-- the arrangement of arguments -/
def ArrOk (K : Fr) (n m l : Nat) (gD : List DV → List DV) (gV : List V → List V → List V) : Prop := ∀ (F : Hp) (α : List Addr) (ds : List DV) (vs zs : List V), vs.length = n → zs.length = m → RepVs K F α ds (vs ++ zs) → RepVs K F α (gD ds) (gV vs zs) ∧ (gV vs zs).length = l
section
variable {P : Program} {w : World} {K : Fr} {mg : Str → Option Value} {base : Heap} {k : Nat} {n : Nat} {ps ks : List Str} {f : Addr} {fd : FuncData} {g : Gn} {gg : List Value → List Value → List Value} {gV : List V → List V → List V} {gD : List DV → List DV}
/-- THE RULE for a def: its body b -/
theorem CD.fn (frz : Bool) {N : List Str} {name qual : Str} {params : Arguments} {body : List Stmt} {scope : Scope} {dvs : List V} {kws : List (Str × V)} {b : SX} (F : FunD K name qual params body scope dvs kws f fd) (S : FnScope N ps scope)
    (hbody : BodyOk P w K mg base k N qual scope f body b) (hb : KBn K fd ps n ks gg gV) (hg : ArrOk K n ks.length ps.length gD gV) : CD P w K mg base (k + 1) (.ref f) n ks (fun ds μ => fnG frz N.length b (gD ds) μ) := by
  intro A outer s H us ws vs zs Q E F0 α μ ds hr e0 rv rz l1 l2 m r o
  obtain ⟨oc, od, dV, kV, doc, pm, an, cdv, ct, osl, rfl, lk, hcd, _, _⟩ := F.ex
  obtain ⟨r2, l3⟩ := hg F0 α ds vs zs l1 l2 r
  have KX : K.In s.heap := e0.mod.kin.keeps fun b o e => (e0.bs b o e).1
  have lim : s.heap.NoLimit := e0.mod.nolimit.keeps fun b o e => (e0.bs b o e).1
  have rel : Vals (gV vs zs) (gg us ws) := hb.rel rv rz
  have hkind : ∀ y ∈ ps.zip (gg us ws), scope.names.lookup y.1 = some .local ∨ (scope.names.lookup y.1 = some .cell ∧ ((cellsFrom (s.heap.objs.size + 1) scope.names []).lookup y.1).isSome = true) := fun y hy => by
    rcases S.par y.1 (List.of_mem_zip hy).1 with q | q
    · exact .inl q
    · exact .inr ⟨q, PySem.W.cellsFrom_some _ _ _ (.inl q)⟩
  refine codeAny_call_function hr.r.depth (KX _ _ lk) rfl S.co S.gen rfl (PySem.W.codeRec_of KX hcd) (hb.to s us ws KX (rv.length.symm.trans l1) (rz.length.symm.trans l2) _ _ _ _ ?_)
  refine wpAny_newFunctionEnv_cells S.kind hkind fun env he s1 x => ?_
  subst he
  refine ⟨lim.keeps x.toInCall.keep, codeAny_func ?_⟩
  have hbd := hbody cdv A outer s H E (hr.deeper _)
  have I : Inv (cxB P w K mg base N qual scope f cdv A outer s H E) [] (L2.start N (gV vs zs)) H s1 := inv_start S hr.r.hd e0 l3 rel x
  refine wpAny_mono (hbd.pss.run [] s1 _ H { nx := fun _ H' => Q .non H', rt := Q } I ⟨F0, α, _, μ, m, slots0 r2, fin_ok (frz := frz) m o⟩) (fun fl s' hs => ?_) fun e s' hs => hs
  have done : ∀ {σ' : St} {H' : Hp} {v : V} {u : Value}, Inv (cxB P w K mg base N qual scope f cdv A outer s H E) [] σ' H' s' → RelV v u → Q v H' → CE outer P w H s Q u s' :=
    fun {σ' H' v u} J rv q => ⟨v, H', J.os, J.bare, J.base, J.hok, rv, q⟩
  cases fl with
  | ret u =>
    obtain ⟨v, σ', H', J, rv, q⟩ := hs
    exact done J rv q
  | next =>
    obtain ⟨σ', H', J, q⟩ := hs
    exact done (v := V.non) (u := Value.none) J rfl q
  | brk =>
    obtain ⟨_, _, _, q⟩ := hs
    exact False.elim q
  | cont =>
    obtain ⟨_, _, _, q⟩ := hs
    exact False.elim q
/-- all arguments given by position -/
theorem kbn0 (b : Binds K fd ps []) : KBn K fd ps ps.length [] (fun us _ => us) (fun vs _ => vs) := by
  refine ⟨fun s us ws X l1 l2 => ?_, fun r _ => r⟩
  cases ws with
  | cons _ _ => cases l2
  | nil =>
    have z := b s us X (by rw [List.append_nil]; exact l1)
    rw [List.append_nil] at z
    exact z
theorem arr0 {n : Nat} : ArrOk K n 0 n (fun ds => ds) (fun vs _ => vs) := by
  intro F α ds vs zs l1 l2 r
  cases zs with
  | cons _ _ => cases l2
  | nil => rw [List.append_nil] at r; exact ⟨r, l1⟩
/-- .. all arguments written -/
theorem CD.pos (frz : Bool) {N : List Str} {name qual : Str} {params : Arguments} {body : List Stmt} {scope : Scope} {dvs : List V} {kws : List (Str × V)} {b : SX} (F : FunD K name qual params body scope dvs kws f fd) (S : FnScope N ps scope)
    (hbody : BodyOk P w K mg base k N qual scope f body b) (hb : Binds K fd ps []) : CD P w K mg base (k + 1) (.ref f) ps.length [] (fnG frz N.length b) := CD.fn frz F S hbody (kbn0 hb) arr0
end
/-- a callable within a body -/
def CallX (X : Cx) (W : WX) (f : Value) (n : Nat) (ks : List Str) (g : Gn) : Prop :=
  ∀ (pins : List (Addr × Obj)) (σ : St) (H : Hp) (s : Shared) (us ws : List Value) (vs zs : List V) (Q : VK) (F : Hp) (α : List Addr) (μ : List Cel) (ds : List DV), Inv X pins σ H s → Vals vs us → Vals zs ws → vs.length = n → zs.length = ks.length →
    Mem X.K F H α μ → RepVs X.K F α ds (vs ++ zs) → OutOk (RV X.K) X.K F α (g ds μ) Q (fun cls dx H' => W cls dx σ H') → wpAny (model X.prog X.w) X.A (call f us (ks.zip ws)) (EP X pins σ Q) X.xe s
section
variable {X : Cx} {W : WX} {k n : Nat} {f : Value} {ks : List Str} {g : Gn}
/-- the result of a call at the body's own place -/
theorem cr_end {pins : List (Addr × Obj)} {σ : St} {H : Hp} {s : Shared} {Q : VK} (tk : L2N.Takes X W) (I : Inv X pins σ H s) {r : Result} {s' : Shared} (hq : CR (L2N.CX X.prog X.w) X.stack X.prog X.w H s Q (fun cls dx H' => W cls dx σ H') r s') :
    match r with
    | .ok fl => (match fl with
      | .ret u => EP X pins σ Q u s'
      | _ => False)
    | .error e => X.xe e s' := by
  cases r with
  | error e => exact tk e s' (L2N.XE.of_call I (fun _ _ _ h => h) hq)
  | ok fl =>
    cases fl with
    | ret u => exact I.after hq
    | next => exact False.elim hq
    | brk => exact False.elim hq
    | cont => exact False.elim hq
theorem CD.x (C : CD X.prog X.w X.K X.mg X.base k f n ks g) (hr : RoomG k X.A) (tk : L2N.Takes X W) : CallX X W f n ks g := by
  intro pins σ H s us ws vs zs Q F α μ ds I rv rz l1 l2 m r o
  refine wpAny_call (codeAny_mono (C X.A X.stack s H us ws vs zs Q (fun cls dx H' => W cls dx σ H') F α μ ds hr I.env0 rv rz l1 l2 m r o) fun r s' hq => ?_)
  have z := cr_end tk I hq
  cases r with
  | error e => exact z
  | ok fl =>
    cases fl with
    | ret u => exact z
    | next => exact False.elim z
    | brk => exact False.elim z
    | cont => exact False.elim z
end
def nonV (v : DV) (f : Out DV) : Out DV := match v with
  | .d .non => f
  | _ => .stuck
/-- a new instance: a cell, given to g (the __init__) ahead of the arguments -/
def mkG (frz : Bool) (c : Nat) (g : Gn) : Gn := fun ds μ => (g (.c μ.length :: ds) (μ ++ [.ins c []])).bind fun v μ' => nonV v (finV frz μ.length (.c μ.length) μ')
section
variable {X : Cx} {W : WX} {k n : Nat} {c : Nat} {g : Addr} {ks : List Str} {gi : Gn}
theorem CD.mk (frz : Bool) (M : Mk X.K (He.ga X.K (clsNm c)) g) (C : CD X.prog X.w X.K X.mg X.base k (.ref g) (n + 1) ks gi) (hr : RoomG (k + 1) X.A) (tk : L2N.Takes X W) : CallX X W (.ref (He.ga X.K (clsNm c))) n ks (mkG frz c gi) := by
  intro pins σ H s us ws vs zs Q F α μ ds I rv rz l1 l2 m r o
  have I2 := Inv.made (C := He.ga X.K (clsNm c)) I
  have n1 : H (s.heap.objs.size + 1) = none := I.hok.fresh (Nat.le_succ _)
  have n2 : H s.heap.objs.size = none := I.hok.fresh (Nat.le_refl _)
  have ne : s.heap.objs.size ≠ s.heap.objs.size + 1 := Nat.ne_of_lt (Nat.lt_succ_self _)
  generalize hp : s.heap.objs.size + 1 = p at I2 n1 ne
  generalize hd : s.heap.objs.size = d at I2 n2 ne
  have m1 := m.more (Le.new (o := .own p) n2)
  have np : (upd H d (.own p)) p = none := by rw [upd_ne (Ne.symm ne)]; exact n1
  obtain ⟨m2, g2⟩ := m1.cell (p := p) (o := .ins (He.ga X.K (clsNm c)) d []) (c := .ins c []) np ⟨(m1.fresh np).1, d, [], upd_same, rfl⟩
  have rs : RepV X.K F (α ++ [p]) (.c μ.length) (.ref p) := ⟨p, by rw [← m.len]; simp, rfl⟩
  have r1 : Vals (V.ref p :: vs) (Value.ref p :: us) := .cons rfl rv
  have rr : RepVs X.K F (α ++ [p]) (.c μ.length :: ds) ((V.ref p :: vs) ++ zs) := ⟨_, _, rfl, rs, r.grow g2⟩
  have o1 : OutOk (RV X.K) X.K F (α ++ [p]) (gi (.c μ.length :: ds) (μ ++ [.ins c []])) (fun v H' => v = .non ∧ Q (.ref p) H') (fun cls dx H' => W cls dx σ H') := by
    have o : OutOk (RV X.K) X.K F α ((gi (.c μ.length :: ds) (μ ++ [.ins c []])).bind fun v μ' => nonV v (finV frz μ.length (.c μ.length) μ')) Q (fun cls dx H' => W cls dx σ H') := o
    cases e : gi (.c μ.length :: ds) (μ ++ [.ins c []]) with
    | stuck => rw [e] at o; exact o
    | raise ex μ1 => rw [e] at o; exact fun cls dx F2 α2 H2 gg mm r => o cls dx F2 α2 H2 (g2.trans gg) mm r
    | ok v μ1 =>
      rw [e] at o
      intro u F1 α1 H1 g1 m3 r3
      have o : OutOk (RV X.K) X.K F α (nonV v (finV frz μ.length (.c μ.length) μ1)) Q (fun cls dx H' => W cls dx σ H') := o
      unfold nonV at o
      split at o
      case h_2 => exact o.elim
      cases r3
      refine ⟨rfl, ?_⟩
      have z := fin_ok (K := X.K) (F := F) (H := H) (α := α) (μ := μ) (frz := frz) (o := .rt (.c μ.length) μ1) (Q := Q) (E := fun cls dx H' => W cls dx σ H') m o
      exact z (.ref p) F1 α1 H1 (g2.trans g1) m3 (rs.grow g1)
  refine wpAny_call (make_map (f := g) I.kIn M.makes M.init (beq_iff_eq.mp M.fn) ?_)
  rw [hp, hd]
  refine codeAny_mono (C _ X.stack _ _ (Value.ref p :: us) ws (V.ref p :: vs) zs _ (fun cls dx H' => W cls dx σ H') F (α ++ [p]) _ _ (hr.make _ us (ks.zip ws)) (I2.env0.make _ us (ks.zip ws)) r1 rz (by simp [l1]) l2 m2 rr o1) fun r s' hq => ?_
  cases r with
  | error e => exact tk e s' (L2N.XE.of_call I2 (fun _ _ _ h => h) hq)
  | ok fl =>
    cases fl with
    | ret u =>
      obtain ⟨v, H', I3, rv3, ev, q3⟩ := I2.after hq
      subst ev
      exact ⟨rv3, ⟨V.ref p, H', I3, rfl, q3⟩⟩
    | next => exact False.elim hq
    | brk => exact False.elim hq
    | cont => exact False.elim hq
end
end DL
set_option Elab.async false
set_option linter.all false
set_option maxRecDepth 100000
set_option maxHeartbeats 4000000
namespace DL
open PySem PySem.Spec PyProof.Rows L2
def eCall (n : Nat) (g : Gn) (as : EXs) : EX := fun ρ μ => (as ρ μ).bind fun xs μ => if xs.length = n then g xs μ else .stuck
def eCallK (n m : Nat) (g : Gn) (as zs : EXs) : EX := fun ρ μ => (as ρ μ).bind fun xs μ => (zs ρ μ).bind fun ys μ => if xs.length = n ∧ ys.length = m then g (xs ++ ys) μ else .stuck
structure DK (X : Cx) (W : WX) (kws : List Keyword) (x : EXs) : Prop where
  pk : PK X kws (tDs X.K W x)
theorem PK.of {X : Cx} {es : List Keyword} {t t' : TA} (h : PK X es t) (i : ∀ σ H Q, t' σ H Q → t σ H Q) : PK X es t' := ⟨fun pos pins s σ H Q I hw => h.run pos pins s σ H Q I (i σ H Q hw)⟩
section
variable {X : Cx} {W : WX} {pos p kpos : Pos} {e : Expr} {es : List Expr} {kws : List Keyword} {x : EX} {xs zs : EXs} {f : Value} {n : Nat} {ks : List Str} {g : Gn} {nm : Option Str}
theorem dk_nil : DK X W [] as0 := ⟨PK.of pk_nil fun σ H Q ⟨F, α, ρ, μ, m, s, o⟩ => OutOk.here (R := RVs X.K) o m rfl⟩
theorem dk_cons (ha : DE X W e x) (hr : DK X W kws xs) : DK X W (⟨nm, e, kpos⟩ :: kws) (as1 x xs) := by
  refine ⟨PK.of (pk_cons ha.pe hr.pk) fun σ H Q h => ?_⟩
  refine tX_bind (f := fun ρ x μ => (xs ρ μ).bind fun y μ => .ok (x :: y) μ) h fun F α ρ μ v u H1 m s rv o => ?_
  refine ⟨F, α, ρ, μ, m, s, ?_⟩
  have o2 : OutOk (RVs X.K) X.K F α ((xs ρ μ).bind fun y μ => .ok (v :: y) μ) Q (fun cls dx H' => W cls dx σ H') := o
  cases e : xs ρ μ with
  | ok v2 μ2 =>
    rw [e] at o2
    exact fun u2 F2 α2 H2 g2 m2 r2 => OutOk.here (R := RVs X.K) (OutOk.grow g2 o2) m2 ⟨u, u2, rfl, rv.grow g2, r2⟩
  | raise ex μ2 => rw [e] at o2; exact o2
  | stuck => rw [e] at o2; exact o2
/-- what a plain call wants of the heap behind its arguments -/
def tCx (X : Cx) (W : WX) (n : Nat) (g : Gn) (σ : St) (H : Hp) (vs : List V) (Q : VK) : Prop := vs.length = n ∧ ∃ F α μ ds, Mem X.K F H α μ ∧ RepVs X.K F α ds vs ∧ OutOk (RV X.K) X.K F α (g ds μ) Q (fun cls dx H' => W cls dx σ H')
theorem to_tCx {σ : St} {H : Hp} {Q : VK} (h : tD X.K W (eCall n g xs) σ H Q) : tDs X.K W xs σ H (fun vs H1 => tCx X W n g σ H1 vs Q) := by
  refine tX_bind (f := fun ρ x μ => if x.length = n then g x μ else .stuck) h fun F α ρ μ v u H1 m s rv o => ?_
  by_cases hl : v.length = n
  · simp only [hl, if_true] at o
    exact ⟨by rw [← rv.length]; exact hl, F, α, μ, v, m, rv, o⟩
  · simp only [hl, if_false] at o
    exact o.elim
theorem run_cx {pins : List (Addr × Obj)} {σ : St} {H : Hp} {s : Shared} {us : List Value} {vs : List V} {Q : VK} (C : CallX X W f n [] g) (I : Inv X pins σ H s) (r : Vals vs us) (h : tCx X W n g σ H vs Q) : wpAny (model X.prog X.w) X.A (call f us) (EP X pins σ Q) X.xe s := by
  obtain ⟨l, F, α, μ, ds, m, rr, o⟩ := h
  exact C pins σ H s us [] vs [] Q F α μ ds I r .nil l rfl m (by rw [List.append_nil]; exact rr) o
variable {y : Str}
/-- f(e, ..), f a global -/
theorem de_call (C : CallX X W f n [] g) (hg : Gl X y) (hm : X.mg y = some f) (hk : PySem.W.keepIn X.K f = true) (ha : DA X W (e :: es) xs) (hdb : (y == ("__debug__" : Str)) = false := by decide)
    (he : starEach (e :: es) X.env = (false, eval e X.env) :: starEach es X.env := by rfl) (hpl : (backTo pos (starEach es X.env)).any (·.1) = false := by rfl) : DE X W (.Call (.Name y p) (e :: es) [] pos) (eCall n g xs) := by
  refine ⟨⟨fun pins s σ H Q I h => ?_⟩⟩
  refine wpAny_Call_Name_kw (ld_glob I hg hm ?_ hdb)
  refine PySem.W.callWith_K (h₀ := X.base) I.ok.mod.kin hk (thn (ha.pa.run pos pins s σ H _ I (to_tCx h)) fun us s1 ⟨vs, H1, I1, r, q⟩ => ⟨I1.kIn, ?_⟩) he hpl
  exact run_cx C I1 r q
/-- f() -/
theorem de_call0 (C : CallX X W f 0 [] g) (hg : Gl X y) (hm : X.mg y = some f) (hk : PySem.W.keepIn X.K f = true) (hdb : (y == ("__debug__" : Str)) = false := by decide) : DE X W (.Call (.Name y p) [] [] pos) (eCall 0 g as0) := by
  refine ⟨⟨fun pins s σ H Q I h => ?_⟩⟩
  obtain ⟨F, α, ρ, μ, m, sl, o⟩ := h
  refine wpAny_Call_Name_kw (ld_glob I hg hm ?_ hdb)
  exact PySem.W.callWith_K0 I.kIn hk (run_cx (us := []) C I .nil ⟨rfl, F, α, μ, [], m, rfl, o⟩)
def tCxK (X : Cx) (W : WX) (n m : Nat) (g : Gn) (σ : St) (H : Hp) (vs zs : List V) (Q : VK) : Prop := vs.length = n ∧ zs.length = m ∧ ∃ F α μ ds, Mem X.K F H α μ ∧ RepVs X.K F α ds (vs ++ zs) ∧ OutOk (RV X.K) X.K F α (g ds μ) Q (fun cls dx H' => W cls dx σ H')
theorem repVs_app {K : Fr} {F : Hp} {α : List Addr} : ∀ {ds es : List DV} {xs ys : List V}, RepVs K F α ds xs → RepVs K F α es ys → RepVs K F α (ds ++ es) (xs ++ ys)
  | [], _, _, _, h, t => by cases (show _ = [] from h); exact t
  | _ :: _, _, _, _, ⟨x, r, h1, h2, h3⟩, t => by subst h1; exact ⟨x, _, rfl, h2, repVs_app h3 t⟩
theorem to_tCxK {σ : St} {H : Hp} {Q : VK} {m : Nat} (h : tD X.K W (eCallK n m g xs zs) σ H Q) : tDs X.K W xs σ H (fun vs H1 => tDs X.K W zs σ H1 fun ws H2 => tCxK X W n m g σ H2 vs ws Q) := by
  refine tX_bind (f := fun ρ x μ => (zs ρ μ).bind fun ys μ => if x.length = n ∧ ys.length = m then g (x ++ ys) μ else .stuck) h fun F α ρ μ v u H1 mm s rv o => ?_
  refine tX_mk mm s (OutOk.bind o fun w u2 F2 α2 μ2 H2 g2 m2 r2 o2 => ?_)
  by_cases hl : v.length = n ∧ w.length = m
  · simp only [hl, and_self, if_true] at o2
    exact ⟨by rw [← rv.length]; exact hl.1, by rw [← r2.length]; exact hl.2, F2, α2, μ2, _, m2, repVs_app (rv.grow g2) r2, o2⟩
  · simp only [hl, if_false] at o2
    exact o2.elim
theorem run_cxk {pins : List (Addr × Obj)} {σ : St} {H : Hp} {s : Shared} {us ws : List Value} {vs zs : List V} {Q : VK} (C : CallX X W f n ks g) (I : Inv X pins σ H s) (r : Vals vs us) (rz : Vals zs ws) (h : tCxK X W n ks.length g σ H vs zs Q) : wpAny (model X.prog X.w) X.A (call f us (ks.zip ws)) (EP X pins σ Q) X.xe s := by
  obtain ⟨l, l2, F, α, μ, ds, m, rr, o⟩ := h
  exact C pins σ H s us ws vs zs Q F α μ ds I r rz l l2 m rr o
/-- f(k = v, ..) -/
theorem de_callk0 (C : CallX X W f 0 ks g) (hg : Gl X y) (hm : X.mg y = some f) (hk : PySem.W.keepIn X.K f = true) (hz : DK X W kws zs) (hks : (backToKw pos (keywordEach kws X.env)).filterMap (·.1) = ks := by rfl) (hall : (backToKw pos (keywordEach kws X.env)).all (·.1.isSome) = true := by rfl)
    (hdb : (y == ("__debug__" : Str)) = false := by decide) (hpl : ((backTo pos (starEach [] X.env)).any (·.1) || (backToKw pos (keywordEach kws X.env)).any (·.1.isNone)) = false := by rfl) : DE X W (.Call (.Name y p) [] kws pos) (eCallK 0 ks.length g as0 zs) := by
  refine ⟨⟨fun pins s σ H Q I h => ?_⟩⟩
  have h2 := to_tCxK h
  obtain ⟨F, α, ρ, μ, m, sl, o⟩ := h2
  have h3 : tDs X.K W zs σ H fun ws H2 => tCxK X W 0 ks.length g σ H2 [] ws Q := OutOk.here (R := RVs X.K) o m rfl
  refine wpAny_Call_Name_kw (ld_glob I hg hm ?_ hdb)
  refine PySem.W.callWith_KW0 (h₀ := X.base) I.ok.mod.kin hk hall ?_ hpl
  refine thn (hz.pk.run pos pins s σ H _ I h3) fun ws s2 ⟨zs, H2, I2, rz, q2⟩ => ⟨I2.kIn, ?_⟩
  rw [hks]
  exact run_cxk (us := []) C I2 .nil rz q2
end
section
variable {K : Fr} {F : Hp} {α : List Addr}
theorem repF_look : ∀ {fs : List (Nat × Dat)} {fv : List (Str × V)} {i : Nat} {d : Dat}, RepF K F fs fv → fs.lookup i = some d → ∃ v, fv.lookup (fldNm i) = some v ∧ Rep K F d v
  | [], _, _, _, _, e => by cases e
  | (f, d0) :: fs, _, i, d, ⟨v, r, e1, h1, h2⟩, e => by
    subst e1
    by_cases hi : i = f
    · subst hi
      simp only [List.lookup_cons_self, Option.some.injEq] at e
      subst e
      exact ⟨v, by simp, h1⟩
    · have hb : (i == f) = false := by simpa using hi
      have hb2 : (fldNm i == fldNm f) = false := by
        rw [beq_eq_false_iff_ne]
        exact fun q => hi (fldNm_inj q)
      simp only [List.lookup_cons, hb] at e
      obtain ⟨w, q, rw'⟩ := repF_look h2 e
      exact ⟨w, by simp only [List.lookup_cons, hb2]; exact q, rw'⟩
end
/-- an instance: its class -/
def insC : DV → List Cel → Option Nat
  | .d (.ins c _), _ => some c
  | .c n, μ => (match μ[n]? with
    | some (.ins c _) => some c
    | _ => none)
  | _, _ => none
def insF : DV → List Cel → Nat → Option DV
  | .d (.ins _ fs), _, i => (fs.lookup i).map .d
  | .c n, μ, i => (match μ[n]? with
    | some (.ins _ fs) => fs.lookup i
    | _ => none)
  | _, _, _ => none
/-- o.f, an attribute of an instance of one of the classes cs -/
def fldG (cs : List Nat) (i : Nat) : G1 := fun x μ => match insC x μ with
  | some c => if c ∈ cs then (match insF x μ i with
    | some v => .ok v μ
    | none => .stuck) else .stuck
  | none => .stuck
section
variable {X : Cx} {W : WX} {pos p apos : Pos} {e : Expr} {x : EX}
/-- no exception from here -/
def noR (o : Out DV) : Out DV := match o with
  | .raise _ _ => .stuck
  | o => o
/-- o.f, a property of the class c -/
def propG (c : Nat) (g : Gn) : G1 := fun x μ => if insC x μ = some c then noR (g [x] μ) else .stuck
/-- the methods by the class -/
abbrev MT := List (Nat × Gn)
def eMeth (n : Nat) (tb : MT) (a : EX) (as : EXs) : EX := fun ρ μ => (a ρ μ).bind fun x μ => match (insC x μ).bind fun c => tb.lookup c with
  | some g => (as ρ μ).bind fun xs μ => if xs.length = n then g (x :: xs) μ else .stuck
  | none => .stuck
variable {es : List Expr} {a0 : Expr} {xs : EXs}
end
def putN (i : Nat) (v : DV) : List (Nat × DV) → List (Nat × DV)
  | [] => [(i, v)]
  | (j, x) :: r => if j = i then (j, v) :: r else (j, x) :: putN i v r
def setFld (cs : List Nat) (i : Nat) (o v : DV) (ρ : Rho) (μ : List Cel) : SOut := match o with
  | .c n => (match μ[n]? with
    | some (.ins c fs) => if c ∈ cs ∧ fs.length < 1000 then .nx ρ (μ.set n (.ins c (putN i v fs))) else .stuck
    | _ => .stuck)
  | _ => .stuck
def sFldS (cs : List Nat) (i : Nat) (o v : EX) : SX := fun ρ μ => (v ρ μ).sbind ρ fun y μ => (o ρ μ).sbind ρ fun x μ => setFld cs i x y ρ μ
end DL
set_option Elab.async false
set_option linter.all false
set_option maxRecDepth 100000
set_option maxHeartbeats 4000000
namespace DL
open PySem PySem.Spec PyProof.Rows L2
section
variable {X : Cx} {tg : Expr} {pins : List (Addr × Obj)} {σ : St} {H : Hp} {s : Shared} {R : It → Hp → Prop} {a : Addr} {xs : List V}
theorem pie_list (I : Inv X pins σ H s) (h : SqL X.K H a xs) (q : R (Itl X.K a) H) : wpAny (model X.prog X.w) X.A (pyIter (.ref a)) (PIE X pins σ tg R) X.xe s := by
  obtain ⟨its, rv, p, hz⟩ := I.list h
  refine wpAny_pyIter_list p.isList ?_
  refine ⟨s.heap.objs.size, [s.heap.objs.size], _, _, H, rfl, I.kept (t' := s.toks) fun b o e => Heap.get?_push_of_some _ e, turn_list a _, ⟨_, Heap.get?_push_size _ rfl, rfl, rfl⟩, fun b hb => ?_, q⟩
  obtain rfl : b = s.heap.objs.size := by simpa using hb
  exact I.fpOk (Nat.le_refl _) (I.hok.fresh (Nat.le_refl _))
theorem pie_tup (I : Inv X pins σ H s) (h : SqT X.K H a xs) (q : R (Itt X.K a) H) : wpAny (model X.prog X.w) X.A (pyIter (.ref a)) (PIE X pins σ tg R) X.xe s := by
  obtain ⟨its, rv, p, hz⟩ := I.tuple h
  refine wpAny_pyIter_tuple (show s.heap.IsTuple a its.toArray from p) ?_
  refine ⟨s.heap.objs.size, [s.heap.objs.size], _, _, H, rfl, I.kept (t' := s.toks) fun b o e => Heap.get?_push_of_some _ e, turn_tuple a _, ⟨_, Heap.get?_push_size _ rfl, rfl, rfl⟩, fun b hb => ?_, q⟩
  obtain rfl : b = s.heap.objs.size := by simpa using hb
  exact I.fpOk (Nat.le_refl _) (I.hok.fresh (Nat.le_refl _))
theorem pie_str {x : Str} {t : Tok} (I : Inv X pins σ H s) (q : R (Its x) H) : wpAny (model X.prog X.w) X.A (pyIter (.str x t)) (PIE X pins σ tg R) X.xe s := by
  cases ha : x.cps.all (· < 128)
  · exact wpAny_pyIter_wide ha (pi_one (tk := s.toks) I _ (turn_str _ x t "str_iterator" (.inr rfl)) ⟨_, Heap.get?_push_size _ rfl, rfl, rfl⟩ q)
  · exact wpAny_pyIter_ascii ha (pi_one (tk := s.toks) I _ (turn_str _ x t "str_ascii_iterator" (.inl rfl)) ⟨_, Heap.get?_push_size _ rfl, rfl, rfl⟩ q)
end
section
variable {K : Fr} {F : Hp} {a b : Addr} {xs ys : List V} {ds es : List Dat}
theorem gives_list (h : SqL K F a xs) (r : Reps K F ds xs) : Gives K F (Itl K a) ds where
  go := fun i H l hi => ⟨xs, xs[i]'(by rw [← r.length]; exact hi), sqL_le l h, by simp⟩
  stop := fun i H l hi => ⟨xs, sqL_le l h, by rw [← r.length]; omega⟩
  yld := fun i H H' x F1 α μ l m hi ⟨e, q⟩ => by
    subst e
    obtain ⟨d, hd, rd⟩ := r.get (q xs (sqL_le (l.trans m.fz) h))
    exact ⟨F1, d, hd, Grow.refl, m, rd.le l⟩
theorem gives_tup (h : SqT K F a xs) (r : Reps K F ds xs) : Gives K F (Itt K a) ds where
  go := fun i H l hi => ⟨xs, xs[i]'(by rw [← r.length]; exact hi), sqT_le l h, by simp⟩
  stop := fun i H l hi => ⟨xs, sqT_le l h, by rw [← r.length]; omega⟩
  yld := fun i H H' x F1 α μ l m hi ⟨e, q⟩ => by
    subst e
    obtain ⟨d, hd, rd⟩ := r.get (q xs (sqT_le (l.trans m.fz) h))
    exact ⟨F1, d, hd, Grow.refl, m, rd.le l⟩
def strD (z : List Nat) : List Dat := z.map fun c => .str [c]
theorem gives_str (z : List Nat) : Gives K F (Its (sV z)) (strD z) where
  go := fun i H l hi => by simpa [Its, sV, strD] using hi
  stop := fun i H l hi => by
    have : i = z.length := by simpa [strD] using hi
    show (sV z).cps.size ≤ i
    simp [sV, this]
  yld := fun i H H' x F1 α μ l m hi ⟨e, c, q, ex⟩ => by
    subst e ex
    have q' : z[i]? = some c := by simpa [sV] using q
    exact ⟨F1, .str [c], by simp [strD, q'], Grow.refl, m, by show 1 ≤ 16777216; decide, rfl⟩
def rngD (lo : Int) (n : Nat) : List Dat := (List.range n).map fun (i : Nat) => .int (lo + (i : Int))
theorem gives_range (lo : Int) (n : Nat) : Gives K F (Itr lo n) (rngD lo n) where
  go := fun i H l hi => by simpa [Itr, rngD] using hi
  stop := fun i H l hi => by
    show n ≤ i
    have : i = n := by simpa [rngD] using hi
    omega
  yld := fun i H H' x F1 α μ l m hi ⟨e, ex⟩ => by
    subst e ex
    have hi' : i < n := by simpa [rngD] using hi
    exact ⟨F1, .int (lo + i), by simp [rngD, hi'], Grow.refl, m, rfl⟩
def enumD (n : Nat) : List Dat → List Dat
  | [] => []
  | d :: ds => .tup [.int (n : Nat), d] :: enumD (n + 1) ds
def zipD : List Dat → List Dat → List Dat
  | d :: ds, e :: es => .tup [d, e] :: zipD ds es
  | _, _ => []
end
def ofS (o : Option (List Dat)) (μ : List Cel) : Out (List Dat) := match o with
  | some ds => .ok ds μ
  | none => .stuck
def seqIt : DV → Option (List Dat)
  | .d (.lst ds) => some ds
  | .d (.tup ds) => some ds
  | .d (.fl ds) => some ds
  | .d (.str z) => some (strD z)
  | _ => none
def iSeq (a : EX) : IX := fun ρ μ => (a ρ μ).bind fun v μ => ofS (seqIt v) μ
def tupIt : DV → Option (List Dat)
  | .d (.lst ds) => some ds
  | .d (.tup ds) => some ds
  | .d (.fl ds) => some ds
  | _ => none
def iEnumX (a : EX) : IX := fun ρ μ => (a ρ μ).bind fun v μ => ofS ((tupIt v).map (enumD 0)) μ
def rngB (i : Int) : Prop := -(2 ^ 62) ≤ i ∧ i < 2 ^ 62
/-- the test, so written that it does not run on an open number -/
def rngT : Int → Bool
  | .ofNat n => Nat.ble n 4611686018427387903
  | .negSucc n => Nat.ble n 4611686018427387903
theorem rngT_iff (i : Int) : rngT i = true ↔ rngB i := by
  unfold rngB
  cases i with
  | ofNat n =>
    show Nat.ble n 4611686018427387903 = true ↔ _
    rw [Nat.ble_eq]
    have : Int.ofNat n = (n : Int) := rfl
    rw [this]
    omega
  | negSucc n =>
    show Nat.ble n 4611686018427387903 = true ↔ _
    rw [Nat.ble_eq]
    omega
instance (i : Int) : Decidable (rngB i) := decidable_of_iff _ (rngT_iff i)
def rng1 : DV → Option (List Dat)
  | .d (.int j) => if rngB j then some (rngD 0 j.toNat) else none
  | _ => none
def rng2 : DV → DV → Option (List Dat)
  | .d (.int i), .d (.int j) => if rngB i ∧ rngB j then some (rngD i (j - i).toNat) else none
  | _, _ => none
def zip2 : DV → DV → Option (List Dat)
  | .d (.lst ds), .d (.lst es) => some (zipD ds es)
  | .d (.tup ds), .d (.tup es) => some (zipD ds es)
  | _, _ => none
def iRange1 (a : EX) : IX := fun ρ μ => (a ρ μ).bind fun v μ => ofS (rng1 v) μ
def iRange2 (a b : EX) : IX := fun ρ μ => (a ρ μ).bind fun v μ => (b ρ μ).bind fun w μ => ofS (rng2 v w) μ
def iZip2 (a b : EX) : IX := fun ρ μ => (a ρ μ).bind fun v μ => (b ρ μ).bind fun w μ => ofS (zip2 v w) μ
section
variable {X : Cx} {W : WX} {tg e e' : Expr} {x x' : EX} {pos p tpos : Pos} {elts : List Expr} {kk : Nat}
/-- what an iterator's wish gives its maker -/
def ItOk (K : Fr) (W : WX) (σ : St) (F : Hp) (α : List Addr) (o : Out (List Dat)) (R : It → Hp → Prop) : Prop := match o with
  | .ok ds μ' => ∀ F' α' H' J, Grow F α F' α' → Mem K F' H' α' μ' → Gives K F' J ds → R J H'
  | .raise e μ' => ∀ cls dx F' α' H', Grow F α F' α' → Mem K F' H' α' μ' → ExnRep K F' e cls dx → W cls dx σ H'
  | .stuck => False
theorem ItOk.grow {K : Fr} {σ : St} {F F' : Hp} {α α' : List Addr} {o : Out (List Dat)} {R : It → Hp → Prop} (g : Grow F α F' α') (h : ItOk K W σ F α o R) : ItOk K W σ F' α' o R := by
  cases o with
  | ok ds μ => exact fun F2 α2 H2 J g2 m gv => h F2 α2 H2 J (g.trans g2) m gv
  | raise e μ => exact fun cls dx F2 α2 H2 g2 m r => h cls dx F2 α2 H2 (g.trans g2) m r
  | stuck => exact h
theorem ItOk.bind {K : Fr} {σ : St} {F : Hp} {α : List Addr} {τ ω : Type} {R0 : Hp → List Addr → τ → ω → Prop} {o : Out τ} {f : τ → List Cel → Out (List Dat)} {R : It → Hp → Prop} {Q' : ω → Hp → Prop} (h : ItOk K W σ F α (o.bind f) R)
    (k : ∀ v u F1 α1 μ1 H1, Grow F α F1 α1 → Mem K F1 H1 α1 μ1 → R0 F1 α1 v u → ItOk K W σ F1 α1 (f v μ1) R → Q' u H1) : OutOk R0 K F α o Q' (fun cls dx H' => W cls dx σ H') := by
  cases o with
  | ok v μ1 => exact fun u F1 α1 H1 g m r => k v u F1 α1 μ1 H1 g m r (ItOk.grow g h)
  | raise e μ1 => exact h
  | stuck => exact h
theorem di_seq (he : DE X W e x) : DI X W tg e (iSeq x) := by
  refine ⟨⟨fun pins s σ H R I h => ?_⟩⟩
  obtain ⟨F, α, ρ, μ, m, sl, o⟩ := h
  replace o : ItOk X.K W σ F α ((x ρ μ).bind fun v μ => ofS (seqIt v) μ) R := o
  have hw : tD X.K W x σ H (fun v H1 => ∃ F1 α1 μ1 d ds, Mem X.K F1 H1 α1 μ1 ∧ RepV X.K F1 α1 d v ∧ seqIt d = some ds ∧ ∀ J, Gives X.K F1 J ds → R J H1) := by
    refine tX_mk m sl (ItOk.bind o fun v u F1 α1 μ1 H1 g1 m1 r1 o1 => ?_)
    cases q : seqIt v with
    | none => rw [q] at o1; exact o1.elim
    | some ds =>
      rw [q] at o1
      exact ⟨F1, α1, μ1, v, ds, m1, r1, q, fun J gv => o1 F1 α1 H1 J Grow.refl m1 gv⟩
  refine thn (he.pe.run pins s σ H _ I hw) fun u s1 ⟨v, H1, I1, rv, F1, α1, μ1, d, ds, m1, r1, q, k⟩ => ?_
  unfold seqIt at q
  split at q
  · cases q
    obtain ⟨z, a, xs, rfl, hx, rr⟩ := r1
    obtain rfl : u = Value.ref a := rv
    exact pie_list I1 (SqL.of (m1.fz _ _ hx)) (k _ (gives_list (SqL.of hx) rr))
  · cases q
    obtain ⟨z, a, xs, rfl, hx, rr⟩ := r1
    obtain rfl : u = Value.ref a := rv
    exact pie_tup I1 (sqT_le m1.fz hx) (k _ (gives_tup hx rr))
  · cases q
    obtain ⟨z, a, xs, rfl, hx, rr⟩ := r1
    obtain rfl : u = Value.ref a := rv
    exact pie_list I1 (sqL_le m1.fz hx) (k _ (gives_list hx rr))
  · cases q
    obtain ⟨z, rfl⟩ := r1
    obtain ⟨t, rfl⟩ := rv
    exact pie_str I1 (k _ (gives_str _))
  · cases q
theorem di_range1 (hg : Gl X "range") (hm : X.mg "range" = none) (he : DE X W e x) (hs : starEach [e] X.env = [(false, eval e X.env)] := by rfl) : DI X W tg (.Call (.Name "range" p) [e] [] pos) (iRange1 x) := by
  refine ⟨PI.of (pi_range1 hg hm (da_cons he da_nil (by rw [hs]; rfl)).pa hs) fun σ H R ⟨F, α, ρ, μ, m, sl, o⟩ => ?_⟩
  replace o : ItOk X.K W σ F α ((x ρ μ).bind fun v μ => ofS (rng1 v) μ) R := o
  refine tX_mk (x := as1 x as0) (R := RVs X.K) m sl ?_
  show OutOk (RVs X.K) X.K F α ((x ρ μ).bind fun v μ => (as0 ρ μ).bind fun vs μ => .ok (v :: vs) μ) _ _
  cases e0 : x ρ μ with
  | stuck => rw [e0] at o; exact o
  | raise ex μ1 => rw [e0] at o; exact o
  | ok v μ1 =>
    rw [e0] at o
    intro us F1 α1 H1 g1 m1 r1
    obtain ⟨u, rfl, ru⟩ := repVs1 r1
    replace o : ItOk X.K W σ F α (ofS (rng1 v) μ1) R := o
    unfold rng1 at o
    split at o
    · rename_i j
      cases ru
      split at o
      · rename_i hj
        exact ⟨j, rfl, hj.1, hj.2, o F1 α1 H1 _ g1 m1 (gives_range 0 j.toNat)⟩
      · exact o.elim
    · exact o.elim
end
end DL
set_option Elab.async false
set_option linter.all false
set_option maxRecDepth 100000
set_option maxHeartbeats 4000000
namespace DL
open PySem PySem.Spec PyProof.Rows L2
def Off (own : List Nat) (σ σ' : St) : Prop := σ.length = σ'.length ∧ ∀ j, j ∉ own → σ[j]? = σ'[j]?
theorem Off.trans {a b : List Nat} {σ σ1 σ2 : St} (x : Off a σ σ1) (y : Off b σ1 σ2) : Off (a ++ b) σ σ2 :=
  ⟨x.1.trans y.1, fun j h => (x.2 j fun q => h (List.mem_append_left _ q)).trans (y.2 j fun q => h (List.mem_append_right _ q))⟩
theorem wipe_get (σ : St) (j : Nat) : ∀ vs : List Nat, (wipe σ vs)[j]? = if j ∈ vs then (if j < σ.length then some none else none) else σ[j]?
  | [] => by simp [wipe]
  | v :: vs => by
    unfold wipe
    by_cases h : v = j
    · subst h
      rw [if_pos List.mem_cons_self]
      by_cases hl : v < σ.length
      · rw [List.getElem?_set_self (by rw [wipe_length]; exact hl), if_pos hl]
      · rw [if_neg hl, List.getElem?_eq_none (by rw [List.length_set, wipe_length]; omega)]
    · rw [List.getElem?_set_ne h, wipe_get σ j vs]
      by_cases h2 : j ∈ vs
      · rw [if_pos h2, if_pos (List.mem_cons_of_mem _ h2)]
      · rw [if_neg h2, if_neg (by simp [h2]; exact fun e => h e.symm)]
theorem Off.wipe {own vs : List Nat} {σ σ' : St} (x : Off own σ σ') (h : ∀ i ∈ own, i ∈ vs) : wipe σ' vs = wipe σ vs := by
  apply List.ext_getElem?
  intro j
  rw [wipe_get, wipe_get]
  by_cases hj : j ∈ vs
  · rw [if_pos hj, if_pos hj, x.1]
  · rw [if_neg hj, if_neg hj]
    exact (x.2 j fun q => hj (h j q)).symm
theorem Off.mono {own vs : List Nat} {σ σ' : St} (x : Off own σ σ') (h : ∀ i ∈ own, i ∈ vs) : Off vs σ σ' := ⟨x.1, fun j hj => x.2 j fun q => hj (h j q)⟩
/-- a pattern of names -/
def PatOk (K : Fr) (own : List Nat) (o : SOut) (F : Hp) (α : List Addr) (σ : St) (H : Hp) (Q : St → Hp → Prop) : Prop := match o with
  | .nx ρ' _ => ∀ σ', Slots K F α ρ' σ' → Off own σ σ' → Q σ' H
  | _ => False
structure DP (X : Cx) (own : List Nat) (tg : Expr) (g : GX) : Prop where
  pg : PG X tg (fun x σ H Q => ∃ F α ρ μ v, Mem X.K F H α μ ∧ Slots X.K F α ρ σ ∧ RepV X.K F α v x ∧ PatOk X.K own (g v ρ μ) F α σ H Q)
  pr : ∀ v ρ μ ρ' μ', g v ρ μ = .nx ρ' μ' → μ' = μ
section
variable {X : Cx} {pos : Pos} {e : Expr} {es : List Expr} {g : GX} {gs : GXs} {own own' : List Nat}
theorem dp_n (i : Nat) {y : Str} (hN : X.N.Nodup) (hi : X.N[i]? = some y := by rfl) (hx : Loc X.env.scope y := by first | exact .inl rfl | exact .inr rfl) (hf : X.fn y = true ∨ X.env.scope.names.lookup y = some .local := by first | exact .inl rfl | exact .inr rfl | assumption) : DP X [i] (.Name y pos) (gN i) := by
  refine ⟨PG.of (pg_name hN hi hx hf) fun u σ H Q ⟨F, α, ρ, μ, v, m, s, r, o⟩ => ?_, fun v ρ μ ρ' μ' h => by cases h; rfl⟩
  refine o _ (s.set i r) ⟨by simp, fun j hj => ?_⟩
  rw [List.getElem?_set_ne (by simpa using fun e => hj (by simp [e]))]
end
/-- the tests of a clause -/
structure DTs (X : Cx) (W : WX) (ifs : List Expr) (t : TX) : Prop where
  pts : PTs X ifs (tDT X.K W t)
theorem PTs.of {X : Cx} {e : List Expr} {t t' : TT} (h : PTs X e t) (i : ∀ σ H Q, t' σ H Q → t σ H Q) : PTs X e t' := ⟨fun pins s σ H Q I hw => h.run pins s σ H Q I (i σ H Q hw)⟩
def tTrue : TX := fun _ μ => .ok true μ
theorem dts_nil {X : Cx} {W : WX} : DTs X W [] tTrue := ⟨PTs.of pts_nil fun σ H Q ⟨F, α, ρ, μ, m, s, o⟩ => OutOk.here (R := RB) o m rfl⟩
abbrev W0 : WX := fun _ _ _ _ => False
theorem takes0 {X : Cx} : L2N.Takes X W0 := fun _ _ x => by
  obtain ⟨_, _, _, _, _, _, _, _, _, _, _, _, _, _, _, _, z⟩ := x
  exact z.elim
def wipeR (ρ : Rho) : List Nat → Rho
  | [] => ρ
  | v :: vs => (wipeR ρ vs).set v none
theorem wipeR_length (ρ : Rho) : ∀ vs, (wipeR ρ vs).length = ρ.length
  | [] => rfl
  | v :: vs => by unfold wipeR; rw [List.length_set, wipeR_length ρ vs]
theorem wipeR_some {ρ : Rho} {i : Nat} {x : DV} : ∀ {vs : List Nat}, (wipeR ρ vs)[i]? = some (some x) → ρ[i]? = some (some x) ∧ i ∉ vs
  | [], h => ⟨h, by simp⟩
  | v :: vs, h => by
    unfold wipeR at h
    by_cases hi : v = i
    · subst hi
      by_cases hv : v < (wipeR ρ vs).length
      · rw [List.getElem?_set_self hv] at h; cases h
      · rw [List.getElem?_eq_none (by simpa using hv)] at h; cases h
    · rw [List.getElem?_set_ne hi] at h
      obtain ⟨h1, h2⟩ := wipeR_some h
      exact ⟨h1, by simp only [List.mem_cons, not_or]; exact ⟨fun e => hi e.symm, h2⟩⟩
theorem Slots.wipe {K : Fr} {F : Hp} {α : List Addr} {ρ : Rho} {σ : St} (s : Slots K F α ρ σ) (vs : List Nat) : Slots K F α (wipeR ρ vs) (L2.wipe σ vs) := by
  refine ⟨by rw [wipeR_length, wipe_length]; exact s.1, fun i v h => ?_⟩
  obtain ⟨h1, h2⟩ := wipeR_some h
  obtain ⟨u, hu, ru⟩ := s.2 i v h1
  exact ⟨u, by rw [wipe_get, if_neg h2]; exact hu, ru⟩
/-- the turns: n0 the new list's cell -/
def compL (n0 : Nat) (ρ : Rho) (g : GX) (t : TX) (e : EX) : List Dat → List Cel → Out Unit
  | [], μ => .ok () μ
  | d :: ds, μ => match g (.d d) ρ μ with
    | .nx ρ1 _ => (match t ρ1 μ with
      | .ok true μ1 => (match e ρ1 μ1 with
        | .ok (.d v) μ2 => (match μ2[n0]? with
          | some (.lst acc) => if acc.length < LIM then compL n0 ρ g t e ds (μ2.set n0 (.lst (acc ++ [v]))) else .stuck
          | _ => .stuck)
        | _ => .stuck)
      | .ok false μ1 => compL n0 ρ g t e ds μ1
      | _ => .stuck)
    | _ => .stuck
def compE (n0 : Nat) (o : Out Unit) : Out DV := match o with
  | .ok _ μ => (match μ[n0]? with
    | some (.lst acc) => .ok (.d (.lst acc)) (cutM n0 (μ.set n0 .dead))
    | _ => .stuck)
  | _ => .stuck
def eLc (own : List Nat) (it : IX) (g : GX) (t : TX) (e : EX) : EX := fun ρ μ => (it ρ μ).bind fun ds μ => compE μ.length (compL μ.length (wipeR ρ own) g t e ds (μ ++ [.lst []]))
section
variable {X : Cx} {W : WX}
abbrev Blk (X : Cx) (scope : Scope) (s : Shared) (H : Hp) (C : Addr) (cl : List (Str × Addr)) (fp : List Addr) : Cx := X.blk s H scope (compEnvC scope cl C X.env) fp
/-- what is reached at the end of the list at cell n0 -/
theorem lc_pre {own : List Nat} {it : IX} {g : GX} {t : TX} {e : EX} {pown : List Nat} {σ : St} {H : Hp} {Q : VK} (hown : ∀ i ∈ pown, i ∈ own) (hpr : ∀ v ρ μ ρ' μ', g v ρ μ = .nx ρ' μ' → μ' = μ) (h : tD X.K W (eLc own it g t e) σ H Q) :
    tLc (tIX X.K W it) (fun x σ H Q => ∃ F α ρ μ v, Mem X.K F H α μ ∧ Slots X.K F α ρ σ ∧ RepV X.K F α v x ∧ PatOk X.K pown (g v ρ μ) F α σ H Q) (tDT X.K W0 t) (tD X.K W0 e) own σ H Q := by
  obtain ⟨F, α, ρ, μ, m, s, o⟩ := h
  refine ⟨F, α, ρ, μ, m, s, ?_⟩
  have o : OutOk (RV X.K) X.K F α ((it ρ μ).bind fun ds μ => compE μ.length (compL μ.length (wipeR ρ own) g t e ds (μ ++ [.lst []]))) Q (fun cls dx H' => W cls dx σ H') := o
  cases q : it ρ μ with
  | stuck => rw [q] at o; exact o
  | raise ex μ1 => rw [q] at o; exact fun cls dx F1 α1 H1 g1 m1 r => o cls dx F1 α1 H1 g1 m1 r
  | ok ds μ0 =>
    rw [q] at o
    intro F1 α1 H1 J g1 m1 gv D hD
    replace o : OutOk (RV X.K) X.K F α (compE μ0.length (compL μ0.length (wipeR ρ own) g t e ds (μ0 ++ [.lst []]))) Q (fun cls dx H' => W cls dx σ H') := o
    have s1 := s.grow g1
    obtain ⟨m2, g2⟩ := m1.cell (p := D) (o := .lst []) (c := .lst []) hD ⟨(m1.fresh hD).1, Nat.zero_le _, [], upd_same, rfl⟩
    refine ⟨fun i mm H => mm = ds.length - i ∧ i ≤ ds.length ∧ ∃ F2 α2 μ2, Grow F1 (α1 ++ [D]) F2 α2 ∧ Mem X.K F2 H α2 μ2 ∧ OutOk (RV X.K) X.K F α (compE μ0.length (compL μ0.length (wipeR ρ own) g t e (ds.drop i) μ2)) Q (fun cls dx H' => W cls dx σ H'),
      ⟨ds.length, by simp, Nat.zero_le _, F1, α1 ++ [D], _, Grow.refl, m2, by rw [List.drop_zero]; exact o⟩, ?_⟩
    rintro i mm H2 ⟨rfl, hi, F2, α2, μ2, g3, m3, o3⟩
    have hn0 : α2[μ0.length]? = some D := by
      refine g3.get ?_
      rw [← m1.len]; simp
    have l2 : Le F1 F2 := g3.f
    by_cases hlt : i < ds.length
    · refine .inr ⟨gv.go i H2 (l2.trans m3.fz) hlt, fun H' => ∃ F4 α4 μ4, Grow F1 (α1 ++ [D]) F4 α4 ∧ Mem X.K F4 H' α4 μ4 ∧ OutOk (RV X.K) X.K F α (compE μ0.length (compL μ0.length (wipeR ρ own) g t e (ds.drop (i + 1)) μ4)) Q (fun cls dx H' => W cls dx σ H'),
        fun H' z => ⟨ds.length - (i + 1), by omega, rfl, hlt, z⟩, fun x H' y => ?_⟩
      obtain ⟨F3, d, hd, g4, m4, r4⟩ := gv.yld i H2 H' x F2 α2 μ2 l2 m3 hlt y
      have ed : ds.drop i = d :: ds.drop (i + 1) := by
        rw [List.drop_eq_getElem_cons hlt]
        rw [List.getElem?_eq_getElem hlt] at hd
        rw [Option.some.inj hd]
      rw [ed] at o3
      have sw : Slots X.K F3 α2 (wipeR ρ own) (wipe σ own) := (s1.grow (g2.trans (g3.trans g4))).wipe own
      refine ⟨F3, α2, wipeR ρ own, μ2, .d d, m4, sw, r4, ?_⟩
      unfold compL at o3
      cases q1 : g (.d d) (wipeR ρ own) μ2 with
      | rt _ _ => rw [q1] at o3; exact o3.elim
      | raise _ _ _ => rw [q1] at o3; exact o3.elim
      | stuck => rw [q1] at o3; exact o3.elim
      | nx ρ1 μx =>
        simp only [q1] at o3
        intro σ1 sl1 off1
        refine ⟨?_, ?_⟩
        · rw [off1.wipe hown]
          apply List.ext_getElem?
          intro j
          rw [wipe_get, wipe_get, wipe_length]
          by_cases hj : j ∈ own
          · rw [if_pos hj, if_pos hj]
          · rw [if_neg hj, if_neg hj]
        · refine tX_mk m4 sl1 ?_
          cases q2 : t ρ1 μ2 with
          | stuck => simp only [q2] at o3; exact o3.elim
          | raise _ _ => simp only [q2] at o3; exact o3.elim
          | ok bb μ5 =>
            intro b F5 α5 H5 g5 m5 rb
            cases (show b = bb from rb)
            cases bb with
            | false =>
              simp only [q2] at o3
              exact iteF ⟨F5, α5, μ5, g3.trans (g4.trans g5), m5, o3⟩
            | true =>
              simp only [q2] at o3
              refine iteT (tX_mk m5 (sl1.grow g5) ?_)
              cases q3 : e ρ1 μ5 with
              | stuck => simp only [q3] at o3; exact o3.elim
              | raise _ _ => simp only [q3] at o3; exact o3.elim
              | ok v μ6 =>
                simp only [q3] at o3
                cases v with
                | c _ => exact o3.elim
                | f _ _ _ _ _ _ => exact o3.elim
                | d v =>
                  intro u F6 α6 H6 g6 m6 r6
                  simp only at o3
                  have hn6 : α6[μ0.length]? = some D := (g5.trans g6).get hn0
                  cases q4 : μ6[μ0.length]? with
                  | none => simp only [q4] at o3; exact o3.elim
                  | some cl =>
                    simp only [q4] at o3
                    cases cl with
                    | ins _ _ => exact o3.elim
                    | dead => exact o3.elim
                    | tab _ => exact o3.elim
                    | lst acc =>
                      simp only at o3
                      obtain ⟨h0, z, xs, hx, rr⟩ := m6.ok _ _ D q4 hn6
                      by_cases hz : acc.length < LIM
                      · rw [if_pos hz] at o3
                        refine ⟨xs, hx, by rw [← rr.length]; exact lim_lt hz, F6, α6, _, g3.trans (g4.trans (g5.trans g6)), ?_, o3⟩
                        exact m6.write (o := .lst (xs ++ [u])) (c := .lst (acc ++ [v])) hn6 h0 ⟨h0, by simp; omega, _, upd_same, rr.append (.cons r6 .nil)⟩
                      · rw [if_neg hz] at o3; exact o3.elim
    · have ei : i = ds.length := by omega
      refine .inl ⟨gv.stop i H2 (l2.trans m3.fz) ei, ?_⟩
      rw [ei, List.drop_length] at o3
      unfold compL compE at o3
      simp only at o3
      cases q4 : μ2[μ0.length]? with
      | none => simp only [q4] at o3; exact o3.elim
      | some cl =>
        simp only [q4] at o3
        cases cl with
        | ins _ _ => exact o3.elim
        | dead => exact o3.elim
        | tab _ => exact o3.elim
        | lst acc =>
          simp only at o3
          obtain ⟨h0, z, xs, hx, rr⟩ := m3.ok _ _ D q4 hn0
          obtain ⟨m5, g5⟩ := m3.freeze hn0 h0 hx
          obtain ⟨α7, g7, m7⟩ := m5.cutM (n := μ0.length) (F := F1) (α := α1) (g2.trans (g3.trans g5)) m1.len.symm
          exact o3 (.ref D) _ α7 H2 (g1.trans g7) m7 ⟨z, D, xs, rfl, upd_same, rr.le g5.f⟩
variable {elt tg iter : Expr} {ifs : List Expr} {scope : Scope} {own : List (Str × Nat)} {pos spos py : Pos} {it : IX} {g : GX} {t : TX} {e : EX} {pown : List Nat}
theorem de_lc (own : List (Str × Nat)) (hc : X.calm = true) (hN : X.N.Nodup) (hi : DI X W tg iter it) (ok : BlkOk X.N X.env.scope scope own) (hg : ∀ s H C cl fp, DP (Blk X scope s H C cl fp) pown tg g) (ht : ∀ s H C cl fp, DTs (Blk X scope s H C cl fp) W0 ifs t)
    (he : ∀ s H C cl fp, DE (Blk X scope s H C cl fp) W0 elt e) (hown : ∀ i ∈ pown, i ∈ own.map (·.2) := by decide) (hs : ∀ x, foldedSetIterable iter X.env x = pure x := by intro _; rfl) :
    DE X W (.ListComp elt [⟨tg, iter, ifs, 0⟩] scope pos) (eLc (own.map (·.2)) it g t e) := by
  have hpr := (hg X.s_0 X.H_0 0 [] []).pr
  exact ⟨PE.of (pe_lc hc hN hi.pi ok (fun s H C cl fp => (hg s H C cl fp).pg) (fun s H C cl fp => (ht s H C cl fp).pts) (fun s H C cl fp => (he s H C cl fp).pe) hs) fun σ H Q h => lc_pre hown hpr h⟩
end
end DL
set_option Elab.async false
set_option linter.all false
set_option maxRecDepth 100000
set_option maxHeartbeats 4000000
namespace DL
open PySem PySem.Spec PyProof.Rows L2
/-- put into a strictly ascending list -/
def insI (x : Int) : List Int → List Int
  | [] => [x]
  | y :: r => if x < y then x :: y :: r else if x = y then y :: r else y :: insI x r
def sSet : List Int → List Int
  | [] => []
  | x :: r => insI x (sSet r)
def intsDat (ns : List Int) : List Dat := ns.map .int
theorem reps_ints {K : Fr} {F : Hp} : ∀ ns : List Int, Reps K F (intsDat ns) (ns.map V.int)
  | [] => rfl
  | n :: ns => ⟨_, _, rfl, rfl, reps_ints ns⟩
def sortSetD : G1 := fun x μ => match (seqs x μ).bind intsD with
  | some ns => if ns.length < 1000 ∧ (sSet ns).length < 64 then okD (.lst (intsDat (sSet ns))) μ else .stuck
  | none => .stuck
end DL
set_option Elab.async false
set_option linter.all false
set_option maxRecDepth 100000
set_option maxHeartbeats 4000000
namespace DL
open PySem PySem.Spec PyProof.Rows L2
def isLstV : DV → List Cel → Bool
  | .d (.lst _), _ => true
  | .d (.fl _), _ => true
  | .c n, μ => (match μ[n]? with
    | some (.lst _) => true
    | _ => false)
  | _, _ => false
theorem isLst_of {K : Fr} {F H : Hp} {α : List Addr} {μ : List Cel} (m : Mem K F H α μ) {d : DV} {x : V} (r : RepV K F α d x) (h : isLstV d μ = true) : tyV K "list" x H := by
  unfold isLstV at h
  split at h
  · obtain ⟨z, a, xs, rfl, hx, rr⟩ := r
    exact .inl ⟨rfl, xs, SqL.of (m.fz _ _ hx)⟩
  · obtain ⟨z, a, xs, rfl, hx, rr⟩ := r
    exact .inl ⟨rfl, xs, sqL_le m.fz hx⟩
  · rename_i n
    obtain ⟨a, ha, rfl⟩ := r
    split at h
    · rename_i ds q
      obtain ⟨h0, z, xs, hx, rr⟩ := m.ok n _ a q ha
      exact .inl ⟨rfl, xs, SqL.of hx⟩
    · cases h
  · cases h
/-- a method of a list, one argument -/
def eLm1 (g : G2) (a b : EX) : EX := fun ρ μ => (a ρ μ).bind fun x μ => if isLstV x μ = true then (b ρ μ).bind fun y μ => g x y μ else .stuck
def appendD : G2 := fun x y μ => match x, y with
  | .c n, .d v => (match μ[n]? with
    | some (.lst ds) => if ds.length < LIM then .ok (.d .non) (μ.set n (.lst (ds ++ [v]))) else .stuck
    | _ => .stuck)
  | _, _ => .stuck
def extendD : G2 := fun x y μ => match x, y with
  | .c n, .d (.lst es) => (match μ[n]? with
    | some (.lst ds) => if ds.length + es.length ≤ LIM then .ok (.d .non) (μ.set n (.lst (ds ++ es))) else .stuck
    | _ => .stuck)
  | _, _ => .stuck
section
variable {X : Cx} {W : WX} {o e : Expr} {xo xe : EX} {apos cpos : Pos}
theorem lm1 {g : G2} {r : V → List V → Hp → VK → Prop} {σ : St} {H : Hp} {Q : VK} (ok : ∀ F α μ H d1 d2 x y (Q : VK) (W : XK), Mem X.K F H α μ → RepV X.K F α d1 x → RepV X.K F α d2 y → OutOk (RV X.K) X.K F α (g d1 d2 μ) Q W → r x [y] H Q) (h : tD X.K W (eLm1 g xo xe) σ H Q) :
    tBM X.K "list" r (tD X.K W xo) (tDs X.K W (as1 xe as0)) σ H Q := by
  refine tX_bind (f := fun ρ x μ => if isLstV x μ = true then (xe ρ μ).bind fun y μ => g x y μ else .stuck) h fun F α ρ μ v u H1 m s rv o => ?_
  by_cases hl : isLstV v μ = true
  · simp only [hl, if_true] at o
    refine ⟨isLst_of m rv hl, tX_mk m s ?_⟩
    show OutOk (RVs X.K) X.K F α ((xe ρ μ).bind fun v μ => (as0 ρ μ).bind fun vs μ => .ok (v :: vs) μ) _ _
    cases q : xe ρ μ with
    | stuck => rw [q] at o; exact o
    | raise ex μ1 => rw [q] at o; exact o
    | ok w μ1 =>
      rw [q] at o
      intro us F1 α1 H2 g1 m1 r1
      obtain ⟨y, rfl, ry⟩ := repVs1 r1
      exact ok F1 α1 μ1 H2 v w u y Q _ m1 (rv.grow g1) ry (OutOk.grow g1 (show OutOk (RV X.K) X.K F α (g v w μ1) Q _ from o))
  · simp only [hl, if_false] at o; exact o.elim
end
/-- the name of a datum's type -/
def tyNm : DV → List Cel → Option String
  | .d .non, _ => some "NoneType"
  | .d (.bl _), _ => some "bool"
  | .d (.int _), _ => some "int"
  | .d (.str _), _ => some "str"
  | .d (.tup _), _ => some "tuple"
  | .d (.lst _), _ => some "list"
  | .d .dic, _ => some "dict"
  | .c n, μ => (match μ[n]? with
    | some (.lst _) => some "list"
    | _ => none)
  | _, _ => none
def isiB (t T : String) : Bool := t == T || (t == "bool" && T == "int")
def isiG (T : String) : G1 := fun x μ => match tyNm x μ with
  | some t => okD (.bl (isiB t T)) μ
  | none => .stuck
section
variable {X : Cx} {W : WX} {p p2 pos : Pos} {e : Expr} {x : EX}
theorem pe_tyN {y : Str} {T : String} (hg : Gl X y) (hm : X.mg y = none) (hv : bootBuiltins y = some (.type T)) (hn : y ≠ "__name__" := by decide) (hd : (y == ("__debug__" : Str)) = false := by decide) : PE X (.Name y p) (tC (.ty T)) :=
  ⟨fun pins s σ H Q I h => ld_blt I hg hm hv ⟨.ty T, H, I, rfl, h⟩ hn hd⟩
end
def reprD (d : Dat) : List Nat := (pyD d).shown.cps.toList
def reprOk (d : Dat) : Bool := shal 60 d && ((pyD d).showable && decide ((pyD d).shown.length ≤ LIM))
def reprG : G1
  | .d d, μ => if reprOk d then okD (.str (reprD d)) μ else .stuck
  | _, _ => .stuck
def rReprD (K : Fr) : List V → Hp → VK → Prop := fun xs H Q => ∃ (x : V) (d : PyData), xs = [x] ∧ Dp K H x d ∧ d.canLay0 = true ∧ d.depth ≤ 61 ∧ d.showable = true ∧ d.shown.length ≤ sizeLine ∧ Q (.str d.shown) H
theorem call_reprD {X : Cx} (hg : X.A.guards = some []) (hu : X.A.units + 64 < cLine) : CallR X (.builtin "repr") (rReprD X.K) := by
  intro pins s σ H xs us Q I r h
  obtain ⟨x, d, rfl, dp, hc, hd, hs, hz, q⟩ := h
  obtain ⟨u, rfl, ru⟩ : ∃ u, us = [u] ∧ RelV x u := by
    cases r with
    | cons a t => cases t; exact ⟨_, rfl, a⟩
  have far : ∀ (a : Addr), u = .ref a → wpAny (model X.prog X.w) X.A (call (.builtin "repr") [u]) (EP X pins σ Q) X.xe s := fun a ea => by
    obtain ⟨as, rd⟩ := Dp.reads I d x u dp ru
    subst ea
    refine repr_of_reads' rd hs (fun z => ?_) hg (by omega) (fun b o e => e) (fun h' u tk k => ?_) hz
    · rw [PySem.PyData.hasDict_of_canLay d hc] at z; cases z
    · exact ⟨.str d.shown, H, I.kept (t' := tk) k, ⟨u, rfl⟩, q⟩
  cases dp with
  | lst h1 h2 => exact far _ ru
  | tup h1 h2 => exact far _ ru
  | non =>
    cases ru
    exact PySem.P.repr_of_none ⟨.str _, H, I.tok _, ⟨_, rfl⟩, q⟩
  | bl b =>
    cases ru
    refine PySem.P.repr_of_bool ⟨.str (PyData.bool b).shown, H, I.tok _, ⟨s.toks, ?_⟩, q⟩
    cases b <;> rfl
  | int i =>
    obtain ⟨t, rfl⟩ := ru
    exact PySem.P.repr_of_int (of_decide_eq_true hs) ⟨.str _, H, I.tok _, ⟨_, rfl⟩, q⟩
  | str y =>
    obtain ⟨t, rfl⟩ := ru
    exact PySem.P.repr_of_str ⟨.str _, H, I.tok _, ⟨_, rfl⟩, q⟩ hz
section
variable {X : Cx} {W : WX} {p pos : Pos} {e : Expr} {x : EX}
/-- {} -/
theorem de_dic : DE X W (.Dict [] [] pos) (eK .dic) := ⟨PE.of pe_dnewK fun σ H Q ⟨F, α, ρ, μ, m, s, o⟩ p hp => by
  have o : OutOk (RV X.K) X.K F α (okD .dic μ) Q (fun cls dx H' => W cls dx σ H') := o
  obtain ⟨m2, g⟩ := m.laid (o := .dK []) hp
  exact o _ _ _ _ g m2 ⟨p, rfl, upd_same⟩⟩
end
def bolG (o : Out DV) : Out DV := o.bind fun v μ => match v with
  | .d (.bl b) => okD (.bl b) μ
  | _ => .stuck
def inOwnG (c : Nat) (g : Gn) : G2 := fun x y μ => if insC y μ = some c then bolG (noR (g [y, x] μ)) else .stuck
end DL
set_option Elab.async false
set_option linter.all false
set_option maxRecDepth 100000
set_option maxHeartbeats 4000000
namespace DL
open PySem PySem.Spec PyProof.Rows L2
def KwChainT (D : Addr) (rest : List Value) (pv : Str) (r : List (Str × Value)) : List (Str × Value) → Sem (List (Str × Value)) → Prop
  | [], t => t = (newTuple rest >>= fun tv => pure (r ++ [(pv, tv)]))
  | q :: l, t => ∃ (β γ : Type) (k1 : Option Value → Sem β) (k2 : β → Sem γ) (k3 : γ → Sem (List (Str × Value))) (a : β), t = ((nsGet D q.1 >>= k1) >>= k2) >>= k3 ∧ k1 (some q.2) = pure a ∧ KwChainT D rest pv r l (k2 a >>= k3)
theorem KwChainT.run {K : Fr} {M : Model} {A : Around} {E : Value → Shared → Prop} {s : Shared} {D : Addr} {rest : List Value} {pv : Str} {r : List (Str × Value)} {Q : List (Str × Value) → Shared → Prop} (X : K.In s.heap)
    (h : wpAny M A (newTuple rest >>= fun tv => pure (r ++ [(pv, tv)])) Q E s) : ∀ {l : List (Str × Value)} {t : Sem (List (Str × Value))}, (∀ q ∈ l, PySem.W.nsIn K D q.1 = some (some q.2)) → KwChainT D rest pv r l t → wpAny M A t Q E s
  | [], t, _, e => by rw [show t = _ from e]; exact h
  | q :: l, t, hl, e => by
    obtain ⟨β, γ, k1, k2, k3, a, e1, e2, e3⟩ := e
    have l1 : PySem.W.Looks M s.heap (nsGet D q.1 >>= k1) a := (PySem.W.looks_nsIn X (hl q (List.mem_cons_self ..))).andThen (PySem.W.Looks.of_pure e2)
    rw [e1, bind_assoc]
    exact wpAny_bind (l1.here (KwChainT.run X h (fun p hp => hl p (List.mem_cons_of_mem _ hp)) e3))
/-- what the body of a def with a star parameter is given -/
def starG (frz : Bool) (N : Nat) (b : SX) (aD rD : List DV → List DV) : Gn := fun ds μ => match dats (rD ds) with
  | some es => if es.length ≤ LIM then fnG frz N b (aD ds ++ [.d (.tup es)]) μ else .stuck
  | none => .stuck
def eCallV (i c n : Nat) (g : Gn) (as : EXs) : EX := fun ρ μ => match ρ[i]? with
  | some (some (.d (.cls c'))) => if c' = c then eCall n g as ρ μ else .stuck
  | _ => .stuck
end DL
set_option Elab.async false
set_option linter.all false
set_option maxRecDepth 100000
set_option maxHeartbeats 4000000
namespace DL
open PySem PySem.Spec PyProof.Rows L2
abbrev FunR (K : Fr) (d : DefR) (fd : FuncData) : Prop := FunD K d.name d.qual d.params d.body d.scope (d.dvs K) (d.kws K) (d.ad K) fd
theorem DefR.fun_ {K : Fr} {d : DefR} (e : d.obs K = d.val) (c : d.ok K = true) (hs : d.sup = none) : ∃ fd, FunR K d fd := by
  obtain ⟨kp, c2⟩ := He.ba c
  unfold DefR.obs at e
  cases q : K.lookup (d.ad K) with
  | none => rw [q] at c2; cases c2
  | some o =>
    obtain ⟨oc, od, dt, osl⟩ := o
    rw [q] at c2 e
    simp only [hs] at c2 e
    cases dt with
    | func fd =>
      obtain ⟨n1, n2, n3, n4, n5, n6, n7, n8, n9, n10, n11, n12, n13, n14, n15⟩ := fd
      simp only [DefR.val, hs, Option.some.injEq, Prod.mk.injEq] at e
      obtain ⟨h1, h2, h3, h4, h5, h6, h7, h8⟩ := e
      subst h1 h2 h3 h4 h5 h6 h7 h8
      obtain ⟨k1, k2⟩ := He.ba (show (PySem.W.codeIn K n13 d.qual && (He.dflB K n8 (d.dvs K) && (He.kwdB K n9 (d.kws K) && true))) = true from c2)
      obtain ⟨k3, k4⟩ := He.ba k2
      rw [Bool.and_true] at k4
      exact ⟨_, ⟨oc, od, n8, n9, n10, n11, n12, n13, n14, osl, rfl, q, k1, He.dflB_ok k3, He.kwdB_ok k4⟩, kp⟩
    | _ => cases c2
def obsR (n : Nat) (chk : Fr → Bool) (fn : List DefR) (K : Fr) : He.AlD := (chk K && fn.all fun d => d.ok K, fn.map fun d => d.obs K)
def valR (fn : List DefR) : He.AlD := (true, fn.map DefR.val)
def SaysR (chk : Fr → Bool) (fn : List DefR) (K : Fr) : Prop := obsR 0 chk fn K = valR fn
section
variable {chk : Fr → Bool} {fn : List DefR} {K : Fr}
theorem SaysR.test (c : SaysR chk fn K) : chk K = true := (He.ba (congrArg (fun z : He.AlD => z.1) c)).1
theorem SaysR.def_ (c : SaysR chk fn K) (i : Nat) {d : DefR} (h : fn[i]? = some d := by rfl) (hs : d.sup = none := by rfl) : ∃ fd, FunR K d fd := by
  have c2 := (He.ba (show (chk K && fn.all fun d => d.ok K) = true from congrArg (fun z : He.AlD => z.1) c)).2
  have e : fn.map (fun d => d.obs K) = fn.map DefR.val := congrArg (fun z : He.AlD => z.2) c
  have e2 : (fn.map fun d => d.obs K)[i]? = (fn.map DefR.val)[i]? := by rw [e]
  rw [List.getElem?_map, List.getElem?_map, h] at e2
  exact DefR.fun_ (Option.some.inj e2) (List.all_eq_true.mp c2 d (List.mem_of_getElem? h)) hs
end
end DL
set_option Elab.async false
set_option linter.all false
set_option maxRecDepth 100000
set_option maxHeartbeats 4000000
namespace DL
open PySem PySem.Spec PyProof.Rows L2
def isiX (tt : List (String × Bool)) (cc : List (Nat × Bool)) : G1 := fun x μ => match tyNm x μ with
  | some t => (match tt.lookup t with
    | some b => okD (.bl b) μ
    | none => .stuck)
  | none => (match insC x μ with
    | some c => (match cc.lookup c with
      | some b => okD (.bl b) μ
      | none => .stuck)
    | none => .stuck)
theorem lookup_mem {β γ : Type} [BEq β] [LawfulBEq β] {l : List (β × γ)} {k : β} {v : γ} (h : l.lookup k = some v) : (k, v) ∈ l := by
  induction l with
  | nil => cases h
  | cons p l ih =>
    obtain ⟨a, b⟩ := p
    rw [List.lookup_cons] at h
    by_cases e : (k == a) = true
    · rw [e] at h
      cases h
      have := eq_of_beq e
      subst this
      exact List.mem_cons_self
    · rw [Bool.eq_false_iff.mpr e] at h
      exact List.mem_cons_of_mem _ (ih h)
def binOwnG (c : Nat) (g : Gn) : G2 := fun x y μ => if insC x μ = some c ∧ insC y μ = some c then noR (g [x, y] μ) else .stuck
def unOwnG (c : Nat) (g : Gn) : G1 := fun x μ => if insC x μ = some c then noR (g [x] μ) else .stuck
/-- the types that == takes at the right -/
def okTy (tt : List String) (cc : List Nat) (y : DV) (μ : List Cel) : Bool := match tyNm y μ with
  | some t => tt.contains t
  | none => (match insC y μ with
    | some c => cc.contains c
    | none => false)
def negB (neg b : Bool) : Bool := if neg then !b else b
def eqOwnG (neg : Bool) (c : Nat) (tt : List String) (cc : List Nat) (g : Gn) : G2 := fun x y μ => if insC x μ = some c ∧ okTy tt cc y μ = true then (noR (g [x, y] μ)).bind fun v μ => (match v with
  | .d (.bl b) => okD (.bl (negB neg b)) μ
  | _ => .stuck) else .stuck
end DL
set_option Elab.async false
set_option linter.all false
set_option maxRecDepth 100000
set_option maxHeartbeats 4000000
namespace DL
open PySem PySem.Spec PyProof.Rows L2
def flatD : Dat → Bool
  | .non => true
  | .bl _ => true
  | .int _ => true
  | .str _ => true
  | _ => false
def itemsD : DV → List Cel → Option (List Dat)
  | .d (.lst ds), _ => some ds
  | .d (.tup ds), _ => some ds
  | .c n, μ => (match μ[n]? with
    | some (.lst ds) => some ds
    | _ => none)
  | _, _ => none
def inD (neg : Bool) : G2 := fun x y μ => match x, itemsD y μ with
  | .d a, some ds => if flatD a = true ∧ ds.all flatD = true then okD (.bl (negB neg (ds.any fun z => eqD z a))) μ else .stuck
  | _, _ => .stuck
section
variable {K : Fr} {F H : Hp} {α : List Addr} {μ : List Cel}
theorem flat_rep {d : Dat} {x : V} (r : Rep K F d x) (h : flatD d = true) : flatV x = true := by
  cases d with
  | non => cases r; rfl
  | bl _ => cases r; rfl
  | int _ => cases r; rfl
  | str _ => obtain ⟨_, rfl⟩ := r; rfl
  | tup _ => cases h
  | lst _ => cases h
  | ins _ _ => cases h
  | dic => cases h
  | fl _ => cases h
  | cls _ => cases h
  | exn _ _ => cases h
theorem flats_rep : ∀ {ds : List Dat} {xs : List V}, Reps K F ds xs → ds.all flatD = true → xs.all flatV = true
  | [], _, r, _ => by cases (show _ = [] from r); rfl
  | d :: ds, _, ⟨x, r, e, h1, h2⟩, h => by
    subst e
    have h' : flatD d = true ∧ ds.all flatD = true := by simpa using h
    rw [List.all_cons, flat_rep h1 h'.1, flats_rep h2 h'.2]
    rfl
theorem eqV_rep {a b : Dat} {x y : V} (ra : Rep K F a x) (rb : Rep K F b y) (ha : flatD a = true) (hb : flatD b = true) : eqV x y = eqD a b := by
  cases a with
  | non =>
    cases ra
    cases b with
    | non =>
      cases rb
      rfl
    | bl b =>
      cases rb
      rfl
    | int b =>
      cases rb
      rfl
    | str b =>
      obtain ⟨_, rfl⟩ := rb
      rfl
    | tup b => cases hb
    | lst b => cases hb
    | ins b1 b2 => cases hb
    | dic => cases hb
    | fl b => cases hb
    | cls b => cases hb
    | exn _ _ => cases hb
  | bl a =>
    cases ra
    cases b with
    | non =>
      cases rb
      rfl
    | bl b =>
      cases rb
      rfl
    | int b =>
      cases rb
      rfl
    | str b =>
      obtain ⟨_, rfl⟩ := rb
      rfl
    | tup b => cases hb
    | lst b => cases hb
    | ins b1 b2 => cases hb
    | dic => cases hb
    | fl b => cases hb
    | cls b => cases hb
    | exn _ _ => cases hb
  | int a =>
    cases ra
    cases b with
    | non =>
      cases rb
      rfl
    | bl b =>
      cases rb
      rfl
    | int b =>
      cases rb
      rfl
    | str b =>
      obtain ⟨_, rfl⟩ := rb
      rfl
    | tup b => cases hb
    | lst b => cases hb
    | ins b1 b2 => cases hb
    | dic => cases hb
    | fl b => cases hb
    | cls b => cases hb
    | exn _ _ => cases hb
  | str a =>
    obtain ⟨_, rfl⟩ := ra
    cases b with
    | non =>
      cases rb
      rfl
    | bl b =>
      cases rb
      rfl
    | int b =>
      cases rb
      rfl
    | str b =>
      obtain ⟨_, rfl⟩ := rb
      show (sV a == sV b) = (a == b)
      by_cases h : a = b
      · subst h; simp
      · have h2 : sV a ≠ sV b := fun e => h (sV_inj e)
        rw [beq_eq_false_iff_ne.mpr h, beq_eq_false_iff_ne.mpr h2]
    | tup b => cases hb
    | lst b => cases hb
    | ins b1 b2 => cases hb
    | dic => cases hb
    | fl b => cases hb
    | cls b => cases hb
    | exn _ _ => cases hb
  | tup a => cases ha
  | lst a => cases ha
  | ins a1 a2 => cases ha
  | dic => cases ha
  | fl a => cases ha
  | cls a => cases ha
  | exn _ _ => cases ha
end
def tupIndexD : G2 := fun x y μ => match x, y with
  | .d (.tup ds), .d a => if flatD a = true ∧ ds.all flatD = true ∧ ds.findIdx (fun z => eqD z a) < ds.length then okD (.int (ds.findIdx (fun z => eqD z a) : Nat)) μ else .stuck
  | _, _ => .stuck
def eLt1 (g : G2) (a b : EX) : EX := fun ρ μ => (a ρ μ).bind fun x μ => match x with
  | .d (.tup ds) => (b ρ μ).bind fun y μ => g (.d (.tup ds)) y μ
  | _ => .stuck
theorem reps_at {K : Fr} {F : Hp} {ds : List Dat} {xs : List V} (r : Reps K F ds xs) {i : Nat} {x : V} (h : xs[i]? = some x) : ∃ d, ds[i]? = some d ∧ Rep K F d x := Reps.get r h
theorem flat_get {ds : List Dat} (h : ds.all flatD = true) {i : Nat} {d : Dat} (e : ds[i]? = some d) : flatD d = true := List.all_eq_true.mp h d (List.mem_of_getElem? e)
end DL
set_option Elab.async false
set_option linter.all false
set_option maxRecDepth 100000
set_option maxHeartbeats 4000000
namespace DL
open PySem PySem.Spec PyProof.Rows L2
def lenOwnG (c : Nat) (g : Gn) : G1 := fun x μ => if insC x μ = some c then (noR (g [x] μ)).bind fun v μ => (match v with
  | .d (.int n) => if 0 ≤ n ∧ n < 2 ^ 63 then okD (.int n) μ else .stuck
  | _ => .stuck) else .stuck
def reprOwnG (c : Nat) (g : Gn) : G1 := fun x μ => if insC x μ = some c then (noR (g [x] μ)).bind fun v μ => (match v with
  | .d (.str s) => okD (.str s) μ
  | _ => .stuck) else .stuck
def intS (i : Int) : List Nat := (Str.ofString (toString i)).cps.toList
def fmtG : G1 := fun x μ => match x with
  | .d (.str s) => okD (.str s) μ
  | .d (.int i) => if i.natAbs.log2 < 1920 ∧ (intS i).length ≤ LIM then okD (.str (intS i)) μ else .stuck
  | _ => .stuck
def jsG : List EX → List Nat → EX
  | [], acc => fun _ μ => okD (.str acc) μ
  | x :: xs, acc => fun ρ μ => (x ρ μ).bind fun v μ => match v with
    | .d (.str s) => if acc.length + s.length ≤ LIM then jsG xs (acc ++ s) ρ μ else .stuck
    | _ => .stuck
end DL
set_option Elab.async false
set_option linter.all false
set_option maxRecDepth 100000
set_option maxHeartbeats 4000000
namespace DL
open PySem PySem.Spec PyProof.Rows L2
section
variable {K : Fr} {x qual : Str} {params : Arguments} {body : List Stmt} {scope : Scope} {kws : List (Str × V)} {f : Addr} {fd : FuncData} {ps : List Str}
/-- no defaults at all -/
theorem kbindsN (F : FunD K x qual params body scope [] kws f fd) (n : Nat) (ks : List Str) (g : {α : Type} → List α → List α → List α)
    (hrel : ∀ {vs zs : List V} {us ws : List Value}, Vals vs us → Vals zs ws → Vals (g vs zs) (g us ws))
    (h : ∀ (kV doc pm : Value) (an : Option Addr) (cdv ct : Value) (us ws : List Value), us.length = n → ws.length = ks.length →
      bindArgs (PySem.W.fnOf x qual params body scope .none kV doc pm an cdv ct) ⟨us, ks.zip ws⟩ = pure (ps.zip (g us ws))) : KBn K fd ps n ks (fun us ws => g us ws) (fun vs zs => g vs zs) := by
  obtain ⟨oc, od, dV, kV, doc, pm, an, cdv, ct, osl, rfl, lk, hcd, hD, hK⟩ := F.ex
  rcases hD with ⟨_, rfl⟩ | ⟨e, _⟩
  · exact ⟨fun s us ws X l1 l2 => BindsTo.of_looks fun M => PySem.W.Looks.of_pure (h kV doc pm an cdv ct us ws l1 l2), fun r1 r2 => hrel r1 r2⟩
  · exact absurd rfl e
end
def getOwnG (c : Nat) (g : Gn) : G2 := fun x y μ => if insC x μ = some c then noR (g [x, y] μ) else .stuck
end DL
set_option Elab.async false
set_option linter.all false
set_option maxRecDepth 100000
set_option maxHeartbeats 4000000
namespace DL
open PySem PySem.Spec PyProof.Rows L2
/-- a, .., *b = t: n targets ahead of the star's -/
def gTS (n : Nat) (gs : GXs) : GX := fun v ρ μ => match v with
  | .d (.tup ds) => if n ≤ ds.length ∧ ds.length ≤ 16384 then gs (ds.take n ++ [.lst (ds.drop n)]) ρ μ else .stuck
  | _ => .stuck
end DL
set_option Elab.async false
set_option linter.all false
set_option maxRecDepth 100000
set_option maxHeartbeats 4000000
namespace PySem
open PySem.Sem (wp)
end PySem
namespace DL
open PySem PySem.Spec PyProof.Rows L2
def boolOwnG (c : Nat) : G1 := fun x μ => if insC x μ = some c then okD (.bl true) μ else .stuck
def strG : G1 := fun x μ => match x with
  | .d (.int i) => if i.natAbs.log2 < 1920 ∧ (intS i).length ≤ LIM then okD (.str (intS i)) μ else .stuck
  | _ => .stuck
end DL
set_option Elab.async false
set_option linter.all false
set_option maxRecDepth 100000
set_option maxHeartbeats 4000000
namespace DL
open PySem PySem.Spec PyProof.Rows L2
theorem cutM_self (μ : List Cel) : cutM μ.length μ = μ := by
  unfold cutM
  split
  · exact List.take_length
  · rfl
def Clo (μ : List Cel) : Prop := μ.all (celLt μ.length) = true
theorem refsLt_le {n m : Nat} (h : n ≤ m) : ∀ fs : List (Nat × DV), refsLt n fs = true → refsLt m fs = true
  | [], _ => rfl
  | (_, .d _) :: r, e => by simpa [refsLt] using refsLt_le h r (by simpa [refsLt] using e)
  | (_, .c j) :: r, e => by
    have e' : j < n ∧ refsLt n r = true := by simpa [refsLt] using e
    simp [refsLt, Nat.lt_of_lt_of_le e'.1 h, refsLt_le h r e'.2]
  | (_, .f _ _ _ j _ _) :: r, e => by
    have e' : j < n ∧ refsLt n r = true := by simpa [refsLt] using e
    simp [refsLt, Nat.lt_of_lt_of_le e'.1 h, refsLt_le h r e'.2]
theorem celLt_le {n m : Nat} (h : n ≤ m) : ∀ c : Cel, celLt n c = true → celLt m c = true
  | .lst _, _ => rfl
  | .dead, _ => rfl
  | .tab _, _ => rfl
  | .ins _ fs, e => refsLt_le h fs e
theorem Clo.app {μ : List Cel} (h : Clo μ) (ds : List Dat) : Clo (μ ++ [.lst ds]) := by
  unfold Clo at h ⊢
  rw [List.all_append, Bool.and_eq_true]
  refine ⟨List.all_eq_true.mpr fun c hc => celLt_le (by simp) c (List.all_eq_true.mp h c hc), rfl⟩
theorem Clo.set {μ : List Cel} (h : Clo μ) (n : Nat) (ds : List Dat) : Clo (μ.set n (.lst ds)) := by
  unfold Clo at h ⊢
  rw [List.length_set]
  refine List.all_eq_true.mpr fun c hc => ?_
  rcases List.mem_or_eq_of_mem_set hc with hc | rfl
  · exact List.all_eq_true.mp h c hc
  · rfl
theorem cutM_app {μ : List Cel} (h : Clo μ) (x : List Cel) : cutM μ.length (μ ++ x) = μ := by
  unfold cutM Clo at *
  rw [List.take_left' rfl, if_pos h]
theorem cutM_of {μ μ' : List Cel} (h : μ'.length = μ.length) : cutM μ.length μ' = μ' := by
  rw [← h]; exact cutM_self μ'
theorem get_last (μ : List Cel) (c : Cel) : (μ ++ [c])[μ.length]? = some c := by simp
theorem set_last (μ : List Cel) (c c' : Cel) : (μ ++ [c]).set μ.length c' = μ ++ [c'] := by simp
/-- a comprehension without effects -/
theorem eLc_pure {own : List Nat} {it : IX} {g : GX} {t : TX} {e : EX} {ρ : Rho} {μ : List Cel} {ds : List Dat} (hc : Clo μ) (hit : it ρ μ = .ok ds μ) (hl : ds.length ≤ LIM) (f : Dat → Option Dat)
    (h : ∀ d ∈ ds, ∀ acc, ∃ ρ1 μx, g (.d d) (wipeR ρ own) (μ ++ [.lst acc]) = .nx ρ1 μx ∧ (match f d with
      | none => t ρ1 (μ ++ [.lst acc]) = .ok false (μ ++ [.lst acc])
      | some v => t ρ1 (μ ++ [.lst acc]) = .ok true (μ ++ [.lst acc]) ∧ e ρ1 (μ ++ [.lst acc]) = .ok (.d v) (μ ++ [.lst acc]))) :
    eLc own it g t e ρ μ = .ok (.d (.lst (ds.filterMap f))) μ := by
  have key : ∀ (l : List Dat) (acc : List Dat), (∀ d ∈ l, d ∈ ds) → acc.length + l.length ≤ LIM → compL μ.length (wipeR ρ own) g t e l (μ ++ [.lst acc]) = .ok () (μ ++ [.lst (acc ++ l.filterMap f)]) := by
    intro l
    induction l with
    | nil => intro acc _ _; simp [compL]
    | cons d l ih =>
      intro acc hm hz
      obtain ⟨ρ1, μx, h1, h2⟩ := h d (hm d (by simp)) acc
      unfold compL
      rw [h1]
      cases q : f d with
      | none =>
        rw [q] at h2
        simp only [h2]
        rw [ih acc (fun d' hd => hm d' (by simp [hd])) (by simp at hz; omega)]
        simp [q]
      | some v =>
        rw [q] at h2
        simp only [h2.1, h2.2, get_last, set_last]
        have hz' : acc.length < LIM := by
          simp only [List.length_cons] at hz
          exact Nat.lt_of_lt_of_le (Nat.lt_add_of_pos_right (Nat.succ_pos _)) hz
        rw [if_pos hz', ih (acc ++ [v]) (fun d' hd => hm d' (by simp [hd])) (by simp at hz ⊢; omega)]
        simp [q]
  unfold eLc
  rw [hit, bind_ok, key ds [] (fun _ h => h) (by simpa using hl)]
  unfold compE
  simp only [List.nil_append, get_last, set_last, cutM_app hc]
/-- .. whose every item goes in -/
theorem eLc_map {own : List Nat} {it : IX} {g : GX} {e : EX} {ρ : Rho} {μ : List Cel} {ds : List Dat} (hc : Clo μ) (hit : it ρ μ = .ok ds μ) (hl : ds.length ≤ LIM) (f : Dat → Dat)
    (h : ∀ d ∈ ds, ∀ acc, ∃ ρ1 μx, g (.d d) (wipeR ρ own) (μ ++ [.lst acc]) = .nx ρ1 μx ∧ e ρ1 (μ ++ [.lst acc]) = .ok (.d (f d)) (μ ++ [.lst acc])) :
    eLc own it g tTrue e ρ μ = .ok (.d (.lst (ds.map f))) μ := by
  rw [eLc_pure hc hit hl (fun d => some (f d)) fun d hd acc => ?_]
  · simp
  · obtain ⟨ρ1, μx, h1, h2⟩ := h d hd acc
    exact ⟨ρ1, μx, h1, rfl, h2⟩
theorem tOr_b {a b : TX} {ρ : Rho} {μ : List Cel} {x y : Bool} (h1 : a ρ μ = .ok x μ) (h2 : x = false → b ρ μ = .ok y μ) : tOrX a b ρ μ = .ok (x || y) μ := by
  unfold tOrX
  rw [h1, bind_ok]
  cases x with
  | true => rfl
  | false => simpa using h2 rfl
section
variable {e : EX} {c : TX} {a b d : SX} {ρ ρ' : Rho} {μ μ' : List Cel} {v : DV} {i : Nat} {g : GX}
theorem st_set (h : e ρ μ = .ok v μ') : sSeq (sAsg e (gN i)) b ρ μ = b (ρ.set i (some v)) μ' := by simp [sSeq, sAsg, gN, h]
theorem st_asg (h : e ρ μ = .ok v μ') (h2 : g v ρ μ' = .nx ρ' μ2) : sSeq (sAsg e g) b ρ μ = b ρ' μ2 := by simp [sSeq, sAsg, h, h2]
theorem st_ret (h : e ρ μ = .ok v μ') : sSeq (sRet e) b ρ μ = .rt v μ' := by simp [sSeq, sRet, h]
theorem st_iff (h : c ρ μ = .ok false μ') : sSeq (sIf c a sSkip) b ρ μ = b ρ μ' := by simp [sSeq, sIf, sSkip, h]
theorem st_if1 (h : c ρ μ = .ok true μ') : sSeq (sIf c a d) b ρ μ = (a ρ μ').bind b := by simp [sSeq, sIf, h]
theorem st_nx (h : a ρ μ = .nx ρ' μ') : sSeq a b ρ μ = b ρ' μ' := by simp [sSeq, h]
theorem st_skip : sSkip ρ μ = .nx ρ μ := rfl
theorem fn_rt {frz : Bool} {N : Nat} {b : SX} {ds : List DV} {x : Dat} (h : b (rho0 N ds) μ = .rt (.d x) μ') : fnG frz N b ds μ = .ok (.d x) (cutM μ.length μ') := by
  unfold fnG
  rw [h]
  rfl
theorem fn_rt0 {frz : Bool} {N : Nat} {b : SX} {ds : List DV} {x : Dat} (h : b (rho0 N ds) μ = .rt (.d x) μ) : fnG frz N b ds μ = .ok (.d x) μ := by
  rw [fn_rt h, cutM_self]
end
section
variable {a b c : EX} {ρ : Rho} {μ μ1 μ2 μ3 : List Cel} {x y z : DV} {r : Out DV}
theorem e2_ok {g : G2} (h1 : a ρ μ = .ok x μ1) (h2 : b ρ μ1 = .ok y μ2) (h : g x y μ2 = r) : e2 g a b ρ μ = r := by unfold e2; rw [h1, bind_ok, h2]; exact h
theorem eN1_ok {g : Gn} (h1 : a ρ μ = .ok x μ1) (h : g [x] μ1 = r) : eN g (as1 a as0) ρ μ = r := by unfold eN as1 as0; rw [h1]; exact h
theorem eN2_ok {g : Gn} (h1 : a ρ μ = .ok x μ1) (h2 : b ρ μ1 = .ok y μ2) (h : g [x, y] μ2 = r) : eN g (as1 a (as1 b as0)) ρ μ = r := by unfold eN as1 as0; rw [h1, bind_ok, h2]; exact h
theorem eN3_ok {g : Gn} (h1 : a ρ μ = .ok x μ1) (h2 : b ρ μ1 = .ok y μ2) (h3 : c ρ μ2 = .ok z μ3) (h : g [x, y, z] μ3 = r) : eN g (as1 a (as1 b (as1 c as0))) ρ μ = r := by unfold eN as1 as0; rw [h1, bind_ok, h2, bind_ok, h3]; exact h
theorem eV_ok {i : Nat} (h : ρ[i]? = some (some x)) : eV i ρ μ = .ok x μ := by unfold eV; rw [h]
theorem eK_ok {v : Dat} : eK v ρ μ = .ok (.d v) μ := rfl
theorem tB_ok {v : Bool} (h : a ρ μ = .ok (.d (.bl v)) μ1) : tBool a ρ μ = .ok v μ1 := by unfold tBool; rw [h]; rfl
theorem eIf1 {t : TX} (h : t ρ μ = .ok true μ1) (h2 : a ρ μ1 = r) : eIf t a b ρ μ = r := by unfold eIf; rw [h]; exact h2
theorem eIf0 {t : TX} (h : t ρ μ = .ok false μ1) (h2 : b ρ μ1 = r) : eIf t a b ρ μ = r := by unfold eIf; rw [h]; exact h2
end
end DL
set_option Elab.async false
set_option linter.all false
set_option maxRecDepth 100000
set_option maxHeartbeats 4000000
namespace DL
open PySem PySem.Spec PyProof.Rows L2
def WE {τ : Type} (o : Out τ) (Q : τ → List Cel → Prop) (X : Exn → List Cel → Prop) : Prop := match o with
  | .ok v μ => Q v μ
  | .raise e μ => X e μ
  | .stuck => False
def WS (o : SOut) (N : Rho → List Cel → Prop) (R : DV → List Cel → Prop) (X : Exn → Rho → List Cel → Prop) : Prop := match o with
  | .nx ρ μ => N ρ μ
  | .rt v μ => R v μ
  | .raise e ρ μ => X e ρ μ
  | .stuck => False
abbrev X0 : Exn → List Cel → Prop := fun _ _ => False
abbrev XS : Exn → Rho → List Cel → Prop := fun _ _ _ => False
section
variable {τ υ : Type} {Q Q' : τ → List Cel → Prop} {X X' : Exn → List Cel → Prop} {o : Out τ}
@[simp] theorem we_ok (v : τ) (μ : List Cel) : WE (.ok v μ) Q X = Q v μ := rfl
@[simp] theorem we_raise (e : Exn) (μ : List Cel) : WE (.raise e μ) Q X = X e μ := rfl
@[simp] theorem we_stuck : WE (.stuck) Q X = False := rfl
@[simp] theorem we_okD (v : Dat) (μ : List Cel) {Q : DV → List Cel → Prop} : WE (okD v μ) Q X = Q (.d v) μ := rfl
theorem WE.mono (h : WE o Q X) (hq : ∀ v μ, Q v μ → Q' v μ) (hx : ∀ e μ, X e μ → X' e μ) : WE o Q' X' := by
  cases o with
  | ok v μ => exact hq _ _ h
  | raise e μ => exact hx _ _ h
  | stuck => exact h
theorem WE.imp (h : WE o Q X) (hq : ∀ v μ, Q v μ → Q' v μ) : WE o Q' X := h.mono hq fun _ _ h => h
theorem we_bind {f : τ → List Cel → Out υ} {Q : υ → List Cel → Prop} : WE (o.bind f) Q X = WE o (fun v μ => WE (f v μ) Q X) X := by cases o <;> rfl
/-- from a reading's equation -/
theorem WE.of_eq {v : τ} {μ : List Cel} (h : o = .ok v μ) (q : Q v μ) : WE o Q X := by rw [h]; exact q
theorem WE.eq {v : τ} {μ : List Cel} (h : WE o (fun v' μ' => v' = v ∧ μ' = μ) X0) : o = .ok v μ := by
  cases o with
  | ok v' μ' => obtain ⟨rfl, rfl⟩ := h; rfl
  | raise e μ => exact h.elim
  | stuck => exact h.elim
theorem WE.ex (h : WE o Q X0) : ∃ v μ, o = .ok v μ ∧ Q v μ := by
  cases o with
  | ok v' μ' => exact ⟨_, _, rfl, h⟩
  | raise e μ => exact h.elim
  | stuck => exact h.elim
end
section
variable {N N' : Rho → List Cel → Prop} {R R' : DV → List Cel → Prop} {X : Exn → Rho → List Cel → Prop} {o : SOut} {τ : Type}
@[simp] theorem ws_nx (ρ : Rho) (μ : List Cel) : WS (.nx ρ μ) N R X = N ρ μ := rfl
@[simp] theorem ws_rt (v : DV) (μ : List Cel) : WS (.rt v μ) N R X = R v μ := rfl
@[simp] theorem ws_raise (e : Exn) (ρ : Rho) (μ : List Cel) : WS (.raise e ρ μ) N R X = X e ρ μ := rfl
@[simp] theorem ws_stuck : WS (.stuck) N R X = False := rfl
theorem ws_bind {f : Rho → List Cel → SOut} : WS (o.bind f) N R X = WS o (fun ρ μ => WS (f ρ μ) N R X) R X := by cases o <;> rfl
theorem ws_sbind {o : Out τ} {ρ : Rho} {f : τ → List Cel → SOut} : WS (o.sbind ρ f) N R X = WE o (fun v μ => WS (f v μ) N R X) (fun e μ => X e ρ μ) := by cases o <;> rfl
theorem WS.mono (h : WS o N R X) (hn : ∀ ρ μ, N ρ μ → N' ρ μ) (hr : ∀ v μ, R v μ → R' v μ) : WS o N' R' X := by
  cases o with
  | nx ρ μ => exact hn _ _ h
  | rt v μ => exact hr _ _ h
  | raise e ρ μ => exact h
  | stuck => exact h
variable {a b c d : SX} {e : EX} {t : TX} {ρ : Rho} {μ : List Cel} {g : GX} {i : Nat}
@[simp] theorem ws_seq : WS (sSeq a b ρ μ) N R X = WS (a ρ μ) (fun ρ μ => WS (b ρ μ) N R X) R X := ws_bind
@[simp] theorem ws_skip : WS (sSkip ρ μ) N R X = N ρ μ := rfl
@[simp] theorem ws_never : WS (sNever ρ μ) N R X = False := rfl
@[simp] theorem ws_ret : WS (sRet e ρ μ) N R X = WE (e ρ μ) R (fun x μ => X x ρ μ) := ws_sbind
@[simp] theorem ws_retN : WS (sRetN ρ μ) N R X = R (.d .non) μ := rfl
@[simp] theorem ws_do : WS (sDo e ρ μ) N R X = WE (e ρ μ) (fun _ μ => N ρ μ) (fun x μ => X x ρ μ) := ws_sbind
@[simp] theorem ws_asg : WS (sAsg e g ρ μ) N R X = WE (e ρ μ) (fun v μ => WS (g v ρ μ) N R X) (fun x μ => X x ρ μ) := ws_sbind
@[simp] theorem ws_if : WS (sIf t a b ρ μ) N R X = WE (t ρ μ) (fun x μ => if x = true then WS (a ρ μ) N R X else WS (b ρ μ) N R X) (fun x μ => X x ρ μ) := by
  unfold sIf
  rw [ws_sbind]
  congr 1
  funext x μ
  cases x <;> rfl
@[simp] theorem ws_gN {v : DV} : WS (gN i v ρ μ) N R X = N (ρ.set i (some v)) μ := rfl
@[simp] theorem ws_gT {n : Nat} {gs : GXs} {ds : List Dat} : WS (gT n gs (.d (.tup ds)) ρ μ) N R X = (ds.length = n ∧ WS (gs ds ρ μ) N R X) := by
  show WS (if ds.length = n then gs ds ρ μ else .stuck) N R X = _
  by_cases h : ds.length = n <;> simp [h]
@[simp] theorem ws_gsN : WS (gsN [] ρ μ) N R X = N ρ μ := rfl
@[simp] theorem ws_gsC {gs : GXs} {v : Dat} {vs : List Dat} : WS (gsC g gs (v :: vs) ρ μ) N R X = WS (g (.d v) ρ μ) (fun ρ μ => WS (gs vs ρ μ) N R X) R X := ws_bind
@[simp] theorem ws_par2 {j : Nat} {as : EXs} : WS (sPar2 i j as ρ μ) N R X = WE (as ρ μ) (fun vs μ => match vs with
    | [v, w] => N ((ρ.set i (some v)).set j (some w)) μ
    | _ => False) (fun x μ => X x ρ μ) := by
  unfold sPar2
  rw [ws_sbind]
  congr 1
  funext vs μ
  split <;> simp
@[simp] theorem ws_par3 {j l : Nat} {as : EXs} : WS (sPar3 i j l as ρ μ) N R X = WE (as ρ μ) (fun vs μ => match vs with
    | [u, v, w] => N (((ρ.set i (some u)).set j (some v)).set l (some w)) μ
    | _ => False) (fun x μ => X x ρ μ) := by
  unfold sPar3
  rw [ws_sbind]
  congr 1
  funext vs μ
  split <;> simp
theorem ws_for {it : IX} : WS (sFor it g b ρ μ) N R X = WE (it ρ μ) (fun ds μ => WS (forL g b ds ρ μ) N R X) (fun x μ => X x ρ μ) := ws_sbind
@[simp] theorem ws_gIx {o i : EX} {v : DV} : WS (gIx o i v ρ μ) N R X = WE (o ρ μ) (fun ov μ => WE (i ρ μ) (fun iv μ => WS (setIx ov iv v ρ μ) N R X) (fun x μ => X x ρ μ)) (fun x μ => X x ρ μ) := by
  unfold gIx
  rw [ws_sbind]
  congr 1
  funext ov μ
  exact ws_sbind
@[simp] theorem ws_setIx {n : Nat} {k : Int} {x : Dat} : WS (setIx (.c n) (.d (.int k)) (.d x) ρ μ) N R X = ∃ ds j, μ[n]? = some (.lst ds) ∧ ixN ds.length k = some j ∧ N ρ (μ.set n (.lst (ds.set j x))) := by
  unfold setIx
  cases h : μ[n]? with
  | none => simp [h]
  | some c =>
    cases c with
    | lst ds =>
      cases h2 : ixN ds.length k with
      | none => simp [h, h2]
      | some j => simp [h, h2]
    | ins _ _ => simp [h]
    | dead => simp [h]
    | tab _ => simp [h]
@[simp] theorem ws_sFld {cs : List Nat} {o v : EX} : WS (sFldS cs i o v ρ μ) N R X = WE (v ρ μ) (fun y μ => WE (o ρ μ) (fun x μ => WS (setFld cs i x y ρ μ) N R X) (fun x μ => X x ρ μ)) (fun x μ => X x ρ μ) := by
  unfold sFldS
  rw [ws_sbind]
  congr 1
  funext ov μ
  exact ws_sbind
@[simp] theorem ws_setFld {cs : List Nat} {n : Nat} {v : DV} : WS (setFld cs i (.c n) v ρ μ) N R X = match μ[n]? with
    | some (.ins c fs) => c ∈ cs ∧ fs.length < 1000 ∧ N ρ (μ.set n (.ins c (putN i v fs)))
    | _ => False := by
  unfold setFld
  dsimp only
  cases h : μ[n]? with
  | none => simp
  | some c =>
    cases c with
    | lst ds => simp
    | ins c fs =>
      by_cases h1 : c ∈ cs <;> by_cases h2 : fs.length < 1000 <;> simp [h1, h2]
    | dead => simp
    | tab _ => simp
end
section
variable {Q : DV → List Cel → Prop} {X : Exn → List Cel → Prop} {ρ : Rho} {μ : List Cel} {a b c : EX} {t t2 : TX} {i : Nat} {x y : DV}
@[simp] theorem we_k {v : Dat} : WE (eK v ρ μ) Q X = Q (.d v) μ := rfl
@[simp] theorem we_v : WE (eV i ρ μ) Q X = ∃ v, ρ[i]? = some (some v) ∧ Q v μ := by
  unfold eV
  cases h : ρ[i]? with
  | none => simp
  | some o => cases o <;> simp
@[simp] theorem we_e1 {g : G1} : WE (e1 g a ρ μ) Q X = WE (a ρ μ) (fun x μ => WE (g x μ) Q X) X := we_bind
@[simp] theorem we_e2 {g : G2} : WE (e2 g a b ρ μ) Q X = WE (a ρ μ) (fun x μ => WE (b ρ μ) (fun y μ => WE (g x y μ) Q X) X) X := by
  unfold e2
  rw [we_bind]
  congr 1
  funext x μ
  exact we_bind
@[simp] theorem we_eN {g : Gn} {as : EXs} : WE (eN g as ρ μ) Q X = WE (as ρ μ) (fun xs μ => WE (g xs μ) Q X) X := we_bind
@[simp] theorem we_as0 {Q : List DV → List Cel → Prop} : WE (as0 ρ μ) Q X = Q [] μ := rfl
@[simp] theorem we_as1 {as : EXs} {Q : List DV → List Cel → Prop} : WE (as1 a as ρ μ) Q X = WE (a ρ μ) (fun x μ => WE (as ρ μ) (fun xs μ => Q (x :: xs) μ) X) X := by
  unfold as1
  rw [we_bind]
  congr 1
  funext x μ
  rw [we_bind]
  rfl
@[simp] theorem we_call {n : Nat} {g : Gn} {as : EXs} : WE (eCall n g as ρ μ) Q X = WE (as ρ μ) (fun xs μ => xs.length = n ∧ WE (g xs μ) Q X) X := by
  unfold eCall
  rw [we_bind]
  congr 1
  funext xs μ
  by_cases h : xs.length = n <;> simp [h]
@[simp] theorem we_callK {n m : Nat} {g : Gn} {as zs : EXs} : WE (eCallK n m g as zs ρ μ) Q X = WE (as ρ μ) (fun xs μ => WE (zs ρ μ) (fun ys μ => xs.length = n ∧ ys.length = m ∧ WE (g (xs ++ ys) μ) Q X) X) X := by
  unfold eCallK
  rw [we_bind]
  congr 1
  funext xs μ
  rw [we_bind]
  congr 1
  funext ys μ
  by_cases h : xs.length = n <;> by_cases h2 : ys.length = m <;> simp [h, h2]
@[simp] theorem we_tTru {Q : Bool → List Cel → Prop} : WE (tTru a ρ μ) Q X = WE (a ρ μ) (fun x μ => ∃ b, truD x μ = some b ∧ Q b μ) X := by
  unfold tTru
  rw [we_bind]
  congr 1
  funext x μ
  cases truD x μ <;> simp
@[simp] theorem we_tBool {Q : Bool → List Cel → Prop} : WE (tBool a ρ μ) Q X = WE (a ρ μ) (fun x μ => ∃ b, x = .d (.bl b) ∧ Q b μ) X := by
  unfold tBool
  rw [we_bind]
  congr 1
  funext x μ
  cases x with
  | c n => simp
  | f _ _ _ _ _ _ => simp
  | d x => cases x <;> simp
@[simp] theorem we_tAnd {Q : Bool → List Cel → Prop} : WE (tAndX t t2 ρ μ) Q X = WE (t ρ μ) (fun x μ => if x = true then WE (t2 ρ μ) Q X else Q false μ) X := by
  unfold tAndX
  rw [we_bind]
  congr 1
  funext x μ
  cases x <;> rfl
@[simp] theorem we_tOr {Q : Bool → List Cel → Prop} : WE (tOrX t t2 ρ μ) Q X = WE (t ρ μ) (fun x μ => if x = true then Q true μ else WE (t2 ρ μ) Q X) X := by
  unfold tOrX
  rw [we_bind]
  congr 1
  funext x μ
  cases x <;> rfl
@[simp] theorem we_tNot {Q : Bool → List Cel → Prop} : WE (tNotX t ρ μ) Q X = WE (t ρ μ) (fun x μ => Q (!x) μ) X := we_bind
@[simp] theorem we_tTrue {Q : Bool → List Cel → Prop} : WE (tTrue ρ μ) Q X = Q true μ := rfl
@[simp] theorem we_and : WE (eAnd a b ρ μ) Q X = WE (a ρ μ) (fun x μ => ∃ t, truD x μ = some t ∧ if t = true then WE (b ρ μ) Q X else Q x μ) X := by
  unfold eAnd
  rw [we_bind]
  congr 1
  funext x μ
  cases truD x μ with
  | none => simp
  | some t => cases t <;> simp
@[simp] theorem we_or : WE (eOr a b ρ μ) Q X = WE (a ρ μ) (fun x μ => ∃ t, truD x μ = some t ∧ if t = true then Q x μ else WE (b ρ μ) Q X) X := by
  unfold eOr
  rw [we_bind]
  congr 1
  funext x μ
  cases truD x μ with
  | none => simp
  | some t => cases t <;> simp
@[simp] theorem we_not : WE (eNot a ρ μ) Q X = WE (a ρ μ) (fun x μ => ∃ t, truD x μ = some t ∧ Q (.d (.bl (!t))) μ) X := by
  unfold eNot
  rw [we_bind]
  congr 1
  funext x μ
  cases truD x μ with
  | none => simp
  | some t => cases t <;> simp
@[simp] theorem we_if : WE (eIf t a b ρ μ) Q X = WE (t ρ μ) (fun x μ => if x = true then WE (a ρ μ) Q X else WE (b ρ μ) Q X) X := by
  unfold eIf
  rw [we_bind]
  congr 1
  funext x μ
  cases x <;> rfl
@[simp] theorem we_chain {g g' : G2} : WE (eChain g g' a b c ρ μ) Q X = WE (a ρ μ) (fun x μ => WE (b ρ μ) (fun y μ => WE (g x y μ) (fun z μ => ∃ t, z = .d (.bl t) ∧ if t = true then WE (c ρ μ) (fun w μ => WE (g' y w μ) Q X) X else Q (.d (.bl false)) μ) X) X) X := by
  unfold eChain
  rw [we_bind]
  congr 1
  funext x μ
  rw [we_bind]
  congr 1
  funext y μ
  rw [we_bind]
  congr 1
  funext z μ
  cases z with
  | c n => simp
  | f _ _ _ _ _ _ => simp
  | d z =>
    cases z with
    | bl t => cases t <;> simp [we_bind]
    | _ => simp
@[simp] theorem we_sl {lo hi : OX} : WE (eSl a lo hi ρ μ) Q X = WE (a ρ μ) (fun x μ => WE (lo ρ μ) (fun l μ => WE (hi ρ μ) (fun h μ => WE (slD x l h μ) Q X) X) X) X := by
  unfold eSl
  rw [we_bind]
  congr 1
  funext x μ
  rw [we_bind]
  congr 1
  funext y μ
  exact we_bind
@[simp] theorem we_oN {Q : Option Int → List Cel → Prop} : WE (oN ρ μ) Q X = Q none μ := rfl
@[simp] theorem we_oS {Q : Option Int → List Cel → Prop} : WE (oS a ρ μ) Q X = WE (a ρ μ) (fun x μ => WE (toI x μ) Q X) X := we_bind
@[simp] theorem we_toI {i : Int} {Q : Option Int → List Cel → Prop} : WE (toI (.d (.int i)) μ) Q X = Q (some i) μ := rfl
@[simp] theorem we_rev : WE (eRev a ρ μ) Q X = WE (a ρ μ) (fun x μ => WE (revD x μ) Q X) X := we_bind
@[simp] theorem we_revL {ds : List Dat} : WE (revD (.d (.lst ds)) μ) Q X = Q (.d (.lst ds.reverse)) μ := rfl
@[simp] theorem we_lm1 {g : G2} : WE (eLm1 g a b ρ μ) Q X = WE (a ρ μ) (fun x μ => isLstV x μ = true ∧ WE (b ρ μ) (fun y μ => WE (g x y μ) Q X) X) X := by
  unfold eLm1
  rw [we_bind]
  congr 1
  funext x μ
  by_cases h : isLstV x μ = true <;> simp [h, we_bind]
@[simp] theorem we_meth {n : Nat} {tb : MT} {as : EXs} : WE (eMeth n tb a as ρ μ) Q X = WE (a ρ μ) (fun x μ => ∃ g, ((insC x μ).bind fun c => tb.lookup c) = some g ∧ WE (as ρ μ) (fun xs μ => xs.length = n ∧ WE (g (x :: xs) μ) Q X) X) X := by
  unfold eMeth
  rw [we_bind]
  congr 1
  funext x μ
  cases h : (insC x μ).bind fun c => tb.lookup c with
  | none => simp
  | some g =>
    simp only [we_bind, Option.some.injEq, exists_eq_left']
    congr 1
    funext xs μ
    by_cases h : xs.length = n <;> simp [h]
@[simp] theorem we_callV {c n : Nat} {g : Gn} {as : EXs} : WE (eCallV i c n g as ρ μ) Q X = (ρ[i]? = some (some (.d (.cls c))) ∧ WE (eCall n g as ρ μ) Q X) := by
  unfold eCallV
  by_cases h : ρ[i]? = some (some (.d (.cls c)))
  · rw [h]
    simp
  · split
    · rename_i c' q
      by_cases hc : c' = c
      · subst hc
        exact absurd q h
      · simp [hc, h]
    · simp [h]
end
section
variable {Q : DV → List Cel → Prop} {X : Exn → List Cel → Prop} {μ : List Cel}
theorem we_ite {o : Out DV} {p : Prop} [Decidable p] : WE (if p then o else .stuck) Q X = (p ∧ WE o Q X) := by
  by_cases h : p <;> simp [h]
@[simp] theorem we_addI {a b : Int} : WE (addD (.d (.int a)) (.d (.int b)) μ) Q X = Q (.d (.int (a + b))) μ := rfl
@[simp] theorem we_addS {a b : List Nat} : WE (addD (.d (.str a)) (.d (.str b)) μ) Q X = (a.length + b.length ≤ 16777216 ∧ Q (.d (.str (a ++ b))) μ) := we_ite
@[simp] theorem we_addT {a b : List Dat} : WE (addD (.d (.tup a)) (.d (.tup b)) μ) Q X = (a.length + b.length ≤ 16777216 ∧ Q (.d (.tup (a ++ b))) μ) := we_ite
@[simp] theorem we_addL {a b : List Dat} : WE (addD (.d (.lst a)) (.d (.lst b)) μ) Q X = (a.length + b.length ≤ 16777216 ∧ Q (.d (.lst (a ++ b))) μ) := we_ite
@[simp] theorem we_sub {a b : Int} : WE (subD (.d (.int a)) (.d (.int b)) μ) Q X = Q (.d (.int (a - b))) μ := rfl
@[simp] theorem we_mul {a b : Int} : WE (mulD (.d (.int a)) (.d (.int b)) μ) Q X = (((-(2 ^ 64) < a ∧ a < 2 ^ 64) ∨ (-(2 ^ 64) < b ∧ b < 2 ^ 64)) ∧ Q (.d (.int (a * b))) μ) := we_ite
@[simp] theorem we_mulL {a : List Dat} {b : Int} : WE (mulD (.d (.lst a)) (.d (.int b)) μ) Q X = ((-(2 ^ 62) < b ∧ b < 2 ^ 62 ∧ a.length * b.toNat ≤ 16777216) ∧ Q (.d (.lst (List.replicate b.toNat a).flatten)) μ) := we_ite
@[simp] theorem we_fdiv {a b : Int} : WE (fdivD (.d (.int a)) (.d (.int b)) μ) Q X = ((0 < b ∧ b < 1073741824) ∧ Q (.d (.int (a / b))) μ) := we_ite
@[simp] theorem we_mod {a b : Int} : WE (modD (.d (.int a)) (.d (.int b)) μ) Q X = (0 < b ∧ Q (.d (.int (a % b))) μ) := we_ite
@[simp] theorem we_pow {a b : Int} : WE (powD (.d (.int a)) (.d (.int b)) μ) Q X = ((0 ≤ b ∧ b ≤ 1000000 ∧ a.natAbs < 2 ^ 64) ∧ Q (.d (.int (a ^ b.toNat))) μ) := we_ite
@[simp] theorem we_neg {a : Int} : WE (negD (.d (.int a)) μ) Q X = Q (.d (.int (-a))) μ := rfl
@[simp] theorem we_eqB {a b : Dat} : WE (eqB (.d a) (.d b) μ) Q X = ((shal 60 a && shal 60 b) = true ∧ Q (.d (.bl (eqD a b))) μ) := we_ite
@[simp] theorem we_neB {a b : Dat} : WE (neB (.d a) (.d b) μ) Q X = ((shal 60 a && shal 60 b) = true ∧ Q (.d (.bl (!eqD a b))) μ) := we_ite
@[simp] theorem we_lt {a b : Int} : WE (ltD (.d (.int a)) (.d (.int b)) μ) Q X = Q (.d (.bl (decide (a < b)))) μ := rfl
@[simp] theorem we_le {a b : Int} : WE (leD (.d (.int a)) (.d (.int b)) μ) Q X = Q (.d (.bl (decide (a ≤ b)))) μ := rfl
@[simp] theorem we_gt {a b : Int} : WE (gtD (.d (.int a)) (.d (.int b)) μ) Q X = Q (.d (.bl (decide (b < a)))) μ := rfl
@[simp] theorem we_ge {a b : Int} : WE (geD (.d (.int a)) (.d (.int b)) μ) Q X = Q (.d (.bl (decide (b ≤ a)))) μ := rfl
@[simp] theorem we_isN {a : Dat} : WE (isN (.d a) (.d .non) μ) Q X = Q (.d (.bl (isNonD a))) μ := rfl
@[simp] theorem we_notN {a : Dat} : WE (notN (.d a) (.d .non) μ) Q X = Q (.d (.bl (!isNonD a))) μ := rfl
@[simp] theorem we_isNc {n : Nat} : WE (isN (.c n) (.d .non) μ) Q X = Q (.d (.bl false)) μ := rfl
@[simp] theorem we_notNc {n : Nat} : WE (notN (.c n) (.d .non) μ) Q X = Q (.d (.bl true)) μ := rfl
theorem we_ofO {o : Option Dat} : WE (ofO o μ) Q X = ∃ d, o = some d ∧ Q (.d d) μ := by cases o <;> simp [ofO]
@[simp] theorem we_ixT {ds : List Dat} {i : Int} : WE (ixD (.d (.tup ds)) (.d (.int i)) μ) Q X = ∃ d, atI ds i = some d ∧ Q (.d d) μ := we_ofO
@[simp] theorem we_ixL {ds : List Dat} {i : Int} : WE (ixD (.d (.lst ds)) (.d (.int i)) μ) Q X = ∃ d, atI ds i = some d ∧ Q (.d d) μ := we_ofO
@[simp] theorem we_ixF {ds : List Dat} {i : Int} : WE (ixD (.d (.fl ds)) (.d (.int i)) μ) Q X = ∃ d, atI ds i = some d ∧ Q (.d d) μ := we_ofO
@[simp] theorem we_ixS {s : List Nat} {i : Int} : WE (ixD (.d (.str s)) (.d (.int i)) μ) Q X = ∃ c, atI s i = some c ∧ Q (.d (.str [c])) μ := by
  show WE (ofO ((atI s i).map fun c => .str [c]) μ) Q X = _
  rw [we_ofO]
  cases atI s i <;> simp
@[simp] theorem we_ixC {n : Nat} {i : Int} : WE (ixD (.c n) (.d (.int i)) μ) Q X = ∃ ds d, μ[n]? = some (.lst ds) ∧ atI ds i = some d ∧ Q (.d d) μ := by
  cases h : μ[n]? with
  | none => simp [ixD, h]
  | some c => cases c <;> simp [ixD, h, we_ofO]
@[simp] theorem we_slT {ds : List Dat} {l h : Option Int} : WE (slD (.d (.tup ds)) l h μ) Q X = Q (.d (.tup (cutL ds l h))) μ := rfl
@[simp] theorem we_slL {ds : List Dat} {l h : Option Int} : WE (slD (.d (.lst ds)) l h μ) Q X = Q (.d (.lst (cutL ds l h))) μ := rfl
@[simp] theorem we_slF {ds : List Dat} {l h : Option Int} : WE (slD (.d (.fl ds)) l h μ) Q X = Q (.d (.lst (cutL ds l h))) μ := rfl
@[simp] theorem we_slS {ds : List Nat} {l h : Option Int} : WE (slD (.d (.str ds)) l h μ) Q X = Q (.d (.str (cutL ds l h))) μ := rfl
@[simp] theorem we_len {x : DV} : WE (lenG [x] μ) Q X = ∃ n, lenN x μ = some n ∧ Q (.d (.int (n : Nat))) μ := by
  cases h : lenN x μ <;> simp [lenG, h]
@[simp] theorem we_abs {i : Int} : WE (absG [.d (.int i)] μ) Q X = Q (.d (.int (if i < 0 then -i else i))) μ := rfl
@[simp] theorem we_max {i j : Int} : WE (maxG [.d (.int i), .d (.int j)] μ) Q X = Q (.d (.int (if j > i then j else i))) μ := rfl
@[simp] theorem we_min {i j : Int} : WE (minG [.d (.int i), .d (.int j)] μ) Q X = Q (.d (.int (if j < i then j else i))) μ := rfl
@[simp] theorem we_intI {i : Int} : WE (intG [.d (.int i)] μ) Q X = Q (.d (.int i)) μ := rfl
@[simp] theorem we_intB {i : Bool} : WE (intG [.d (.bl i)] μ) Q X = Q (.d (.int (if i then 1 else 0))) μ := rfl
@[simp] theorem we_tupT {ds : List Dat} : WE (tupleG [.d (.tup ds)] μ) Q X = Q (.d (.tup ds)) μ := rfl
@[simp] theorem we_tupL {ds : List Dat} : WE (tupleG [.d (.lst ds)] μ) Q X = Q (.d (.tup ds)) μ := rfl
@[simp] theorem we_tupC {n : Nat} : WE (tupleG [.c n] μ) Q X = ∃ ds, μ[n]? = some (.lst ds) ∧ Q (.d (.tup ds)) μ := by
  cases h : μ[n]? with
  | none => simp [tupleG, h]
  | some c => cases c <;> simp [tupleG, h]
@[simp] theorem we_lstT {ds : List Dat} : WE (listG [.d (.tup ds)] μ) Q X = Q (.d (.lst ds)) μ := rfl
@[simp] theorem we_lstL {ds : List Dat} : WE (listG [.d (.lst ds)] μ) Q X = Q (.d (.lst ds)) μ := rfl
@[simp] theorem we_any {x : DV} : WE (anyG [x] μ) Q X = ∃ bs, (seqs x μ).bind bls = some bs ∧ Q (.d (.bl (bs.any id))) μ := by
  cases h : (seqs x μ).bind bls <;> simp [anyG, h]
@[simp] theorem we_all {x : DV} : WE (allG [x] μ) Q X = ∃ bs, (seqs x μ).bind bls = some bs ∧ Q (.d (.bl (bs.all id))) μ := by
  cases h : (seqs x μ).bind bls <;> simp [allG, h]
@[simp] theorem we_sum {x : DV} : WE (sumG [x] μ) Q X = ∃ bs, (seqs x μ).bind intsD = some bs ∧ Q (.d (.int bs.sum)) μ := by
  cases h : (seqs x μ).bind intsD <;> simp [sumG, h]
@[simp] theorem we_divmod {i j : Int} : WE (divmodG [.d (.int i), .d (.int j)] μ) Q X = ((0 < j ∧ j < 1073741824) ∧ Q (.d (.tup [.int (i / j), .int (i % j)])) μ) := we_ite
@[simp] theorem we_eTup {xs : List DV} : WE (eTupD xs μ) Q X = ∃ ds, dats xs = some ds ∧ ds.length ≤ 16777216 ∧ Q (.d (.tup ds)) μ := by
  unfold eTupD
  cases h : dats xs with
  | none => simp
  | some ds => simp [we_ite]
@[simp] theorem we_eLst {xs : List DV} : WE (eLstD xs μ) Q X = ∃ ds, dats xs = some ds ∧ ds.length ≤ 16777216 ∧ Q (.d (.lst ds)) μ := by
  unfold eLstD
  cases h : dats xs with
  | none => simp
  | some ds => simp [we_ite]
@[simp] theorem we_eLstC {xs : List DV} : WE (eLstC xs μ) Q X = ∃ ds, dats xs = some ds ∧ ds.length ≤ 16777216 ∧ Q (.c μ.length) (μ ++ [.lst ds]) := by
  unfold eLstC
  cases h : dats xs with
  | none => simp
  | some ds => simp [we_ite]
@[simp] theorem dats_nil : dats [] = some [] := rfl
@[simp] theorem dats_cons (x : Dat) (r : List DV) : dats (.d x :: r) = (dats r).map (x :: ·) := rfl
@[simp] theorem dats_map (l : List Dat) : dats (l.map .d) = some l := by
  induction l with
  | nil => rfl
  | cons a l ih => simp [ih]
@[simp] theorem we_append {n : Nat} {v : Dat} : WE (appendD (.c n) (.d v) μ) Q X = ∃ ds, μ[n]? = some (.lst ds) ∧ ds.length < 16777216 ∧ Q (.d .non) (μ.set n (.lst (ds ++ [v]))) := by
  cases h : μ[n]? with
  | none => simp [appendD, h]
  | some c => cases c <;> simp [appendD, h, we_ite]
@[simp] theorem we_extend {n : Nat} {es : List Dat} : WE (extendD (.c n) (.d (.lst es)) μ) Q X = ∃ ds, μ[n]? = some (.lst ds) ∧ ds.length + es.length ≤ 16777216 ∧ Q (.d .non) (μ.set n (.lst (ds ++ es))) := by
  cases h : μ[n]? with
  | none => simp [extendD, h]
  | some c => cases c <;> simp [extendD, h, we_ite]
@[simp] theorem we_isi {T : String} {x : DV} : WE (isiG T x μ) Q X = ∃ t, tyNm x μ = some t ∧ Q (.d (.bl (isiB t T))) μ := by
  unfold isiG
  cases tyNm x μ <;> simp
@[simp] theorem we_reprD {d : Dat} : WE (reprG (.d d) μ) Q X = (reprOk d = true ∧ Q (.d (.str (reprD d))) μ) := we_ite
@[simp] theorem we_reprL {ds : List Dat} : WE (reprG (.d (.lst ds)) μ) Q X = (reprOk (.lst ds) = true ∧ Q (.d (.str (reprD (.lst ds)))) μ) := we_ite
@[simp] theorem we_reprT {ds : List Dat} : WE (reprG (.d (.tup ds)) μ) Q X = (reprOk (.tup ds) = true ∧ Q (.d (.str (reprD (.tup ds)))) μ) := we_ite
@[simp] theorem we_sortSet {x : DV} : WE (sortSetD x μ) Q X = ∃ ns, (seqs x μ).bind intsD = some ns ∧ (ns.length < 1000 ∧ (sSet ns).length < 64) ∧ Q (.d (.lst (intsDat (sSet ns)))) μ := by
  unfold sortSetD
  cases (seqs x μ).bind intsD with
  | none => simp
  | some ns => simp [we_ite]
@[simp] theorem we_fld {cs : List Nat} {i : Nat} {x : DV} : WE (fldG cs i x μ) Q X = ∃ c v, insC x μ = some c ∧ c ∈ cs ∧ insF x μ i = some v ∧ Q v μ := by
  unfold fldG
  cases insC x μ with
  | none => simp
  | some c =>
    by_cases h : c ∈ cs
    · cases insF x μ i <;> simp [h]
    · simp [h]
theorem we_noR {o : Out DV} : WE (noR o) Q X = WE o Q X0 := by cases o <;> rfl
@[simp] theorem we_prop {c : Nat} {g : Gn} {x : DV} : WE (propG c g x μ) Q X = (insC x μ = some c ∧ WE (g [x] μ) Q X0) := by
  unfold propG
  by_cases h : insC x μ = some c <;> simp [h, we_noR]
@[simp] theorem we_inOwn {c : Nat} {g : Gn} {x y : DV} : WE (inOwnG c g x y μ) Q X = (insC y μ = some c ∧ WE (g [y, x] μ) (fun v μ => ∃ b, v = .d (.bl b) ∧ Q v μ) X0) := by
  unfold inOwnG bolG
  by_cases h : insC y μ = some c
  · simp only [h, if_true, true_and, we_bind, we_noR]
    congr 1
    · funext v μ
      cases v with
      | c n => simp
      | f _ _ _ _ _ _ => simp
      | d x => cases x <;> simp
    
  · simp [h]
end
section
variable {Q : DV → List Cel → Prop} {X : Exn → List Cel → Prop} {μ : List Cel}
theorem we_fin {frz : Bool} {n : Nat} {o : SOut} : WE (fin frz n o) Q X = WS o (fun _ μ' => Q (.d .non) (cutM n μ')) (fun v μ' => WE (finV frz n v μ') Q X) (fun e _ μ' => X e (cutM n μ')) := by cases o <;> rfl
@[simp] theorem we_fnG {frz : Bool} {N : Nat} {b : SX} {ds : List DV} : WE (fnG frz N b ds μ) Q X = WS (b (rho0 N ds) μ) (fun _ μ' => Q (.d .non) (cutM μ.length μ')) (fun v μ' => WE (finV frz μ.length v μ') Q X) (fun e _ μ' => X e (cutM μ.length μ')) := we_fin
@[simp] theorem we_finD {frz : Bool} {n : Nat} {x : Dat} : WE (finV frz n (.d x) μ) Q X = Q (.d x) (cutM n μ) := rfl
@[simp] theorem we_finC {n j : Nat} : WE (finV false n (.c j) μ) Q X = Q (.c j) μ := rfl
@[simp] theorem we_starG {frz : Bool} {N : Nat} {b : SX} {aD rD : List DV → List DV} {ds : List DV} : WE (starG frz N b aD rD ds μ) Q X = ∃ es, dats (rD ds) = some es ∧ es.length ≤ 16777216 ∧ WE (fnG frz N b (aD ds ++ [.d (.tup es)]) μ) Q X := by
  unfold starG
  cases h : dats (rD ds) with
  | none => simp
  | some es => by_cases hl : es.length ≤ 16777216 <;> simp [hl]
@[simp] theorem cutM_self' (μ : List Cel) : cutM μ.length μ = μ := cutM_self μ
end
end DL
set_option Elab.async false
set_option linter.all false
set_option maxRecDepth 100000
set_option maxHeartbeats 4000000
namespace DL
open PySem PySem.Spec PyProof.Rows L2
section
variable {X : Exn → List Cel → Prop} {ρ : Rho} {μ : List Cel} {a b : EX} {Q : List Dat → List Cel → Prop}
@[simp] theorem we_ofS {o : Option (List Dat)} : WE (ofS o μ) Q X = ∃ ds, o = some ds ∧ Q ds μ := by cases o <;> simp [ofS]
@[simp] theorem we_iSeq : WE (iSeq a ρ μ) Q X = WE (a ρ μ) (fun v μ => ∃ ds, seqIt v = some ds ∧ Q ds μ) X := by
  unfold iSeq
  rw [we_bind]
  simp only [we_ofS]
@[simp] theorem we_iEnum : WE (iEnumX a ρ μ) Q X = WE (a ρ μ) (fun v μ => ∃ ds, tupIt v = some ds ∧ Q (enumD 0 ds) μ) X := by
  unfold iEnumX
  rw [we_bind]
  congr 1
  funext v μ
  cases tupIt v <;> simp
@[simp] theorem we_iRange1 : WE (iRange1 a ρ μ) Q X = WE (a ρ μ) (fun v μ => ∃ ds, rng1 v = some ds ∧ Q ds μ) X := by
  unfold iRange1
  rw [we_bind]
  simp only [we_ofS]
@[simp] theorem we_iRange2 : WE (iRange2 a b ρ μ) Q X = WE (a ρ μ) (fun v μ => WE (b ρ μ) (fun w μ => ∃ ds, rng2 v w = some ds ∧ Q ds μ) X) X := by
  unfold iRange2
  rw [we_bind]
  congr 1
  funext v μ
  rw [we_bind]
  simp only [we_ofS]
@[simp] theorem we_iZip2 : WE (iZip2 a b ρ μ) Q X = WE (a ρ μ) (fun v μ => WE (b ρ μ) (fun w μ => ∃ ds, zip2 v w = some ds ∧ Q ds μ) X) X := by
  unfold iZip2
  rw [we_bind]
  congr 1
  funext v μ
  rw [we_bind]
  simp only [we_ofS]
end
section
variable {N : Rho → List Cel → Prop} {R : DV → List Cel → Prop} {X : Exn → Rho → List Cel → Prop} {b : SX} {g : GX} {ρ : Rho} {μ : List Cel}
/-- a for loop by its invariant: I of the items done -/
theorem ws_forI {β : Type} (enc : β → Dat) (I : List β → Rho → List Cel → Prop) (xs : List β) (h0 : I [] ρ μ)
    (hs : ∀ pre x post ρ μ, xs = pre ++ x :: post → I pre ρ μ → WS (g (.d (enc x)) ρ μ) (fun ρ μ => WS (b ρ μ) (fun ρ μ => I (pre ++ [x]) ρ μ) R X) R X)
    (he : ∀ ρ μ, I xs ρ μ → N ρ μ) : WS (forL g b (xs.map enc) ρ μ) N R X := by
  have key : ∀ (post pre : List β) (ρ : Rho) (μ : List Cel), xs = pre ++ post → I pre ρ μ → WS (forL g b (post.map enc) ρ μ) N R X := by
    intro post
    induction post with
    | nil =>
      intro pre ρ μ e i
      rw [List.append_nil] at e
      subst e
      exact he _ _ i
    | cons x post ih =>
      intro pre ρ μ e i
      show WS (((g (.d (enc x)) ρ μ).bind b).bind (forL g b (post.map enc))) N R X
      rw [ws_bind, ws_bind]
      have z := hs pre x post ρ μ e i
      have step : ∀ (o : SOut), WS o (fun ρ μ => WS (b ρ μ) (fun ρ μ => I (pre ++ [x]) ρ μ) R X) R X → WS o (fun ρ μ => WS (b ρ μ) (fun ρ μ => WS (forL g b (post.map enc) ρ μ) N R X) R X) R X := fun o ho =>
        ho.mono (fun ρ1 μ1 h1 => h1.mono (fun ρ2 μ2 h2 => ih (pre ++ [x]) ρ2 μ2 (by rw [e]; simp) h2) fun _ _ h => h) fun _ _ h => h
      exact step _ z
  exact key xs [] ρ μ rfl h0
end
inductive All2 {β γ : Type} (F : β → γ → Prop) : List β → List γ → Prop where
  | nil : All2 F [] []
  | cons {x : β} {y : γ} {xs : List β} {ys : List γ} (h : F x y) (t : All2 F xs ys) : All2 F (x :: xs) (y :: ys)
def flatC : Cel → Bool
  | .ins _ _ => false
  | _ => true
theorem Clo.apps {μ : List Cel} (h : Clo μ) (t : List Cel) (ht : t.all flatC = true) : Clo (μ ++ t) := by
  unfold Clo at h ⊢
  rw [List.all_append, Bool.and_eq_true]
  refine ⟨List.all_eq_true.mpr fun c hc => celLt_le (by simp) c (List.all_eq_true.mp h c hc), List.all_eq_true.mpr fun c hc => ?_⟩
  have := List.all_eq_true.mp ht c hc
  cases c with
  | ins _ _ => cases this
  | _ => rfl
/-- a comprehension whose turns leave cells behind: they are dropped at its end -/
theorem we_lcG {X : Exn → List Cel → Prop} {own : List Nat} {it : IX} {g : GX} {e : EX} {ρ : Rho} {μ : List Cel} {Q : DV → List Cel → Prop} {β : Type} (enc : β → Dat) (P : Dat → Prop) (xs : List β) (hl : xs.length ≤ LIM)
    (hit : WE (it ρ μ) (fun ds μ1 => ds = xs.map enc ∧ Clo μ1 ∧ ∀ ys, ys.length = xs.length → (∀ y ∈ ys, P y) → Q (.d (.lst ys)) μ1) X)
    (h : ∀ x ∈ xs, ∀ M, Clo M → WS (g (.d (enc x)) (wipeR ρ own) M) (fun ρ1 _ => WE (e ρ1 M) (fun v M' => ∃ y t, v = .d y ∧ P y ∧ M' = M ++ t ∧ t.all flatC = true) X0) (fun _ _ => False) XS) : WE (eLc own it g tTrue e ρ μ) Q X := by
  unfold eLc
  rw [we_bind]
  refine hit.imp fun ds μ1 hq => ?_
  obtain ⟨rfl, c1, q⟩ := hq
  have key : ∀ (l : List β) (t : List Cel) (acc : List Dat), (∀ d ∈ l, d ∈ xs) → acc.length + l.length ≤ LIM → t.all flatC = true → ∃ ys t2, compL μ1.length (wipeR ρ own) g tTrue e (l.map enc) (μ1 ++ .lst acc :: t) = .ok () (μ1 ++ .lst (acc ++ ys) :: t2) ∧ ys.length = l.length ∧ ∀ y ∈ ys, P y := by
    intro l
    induction l with
    | nil => intro t acc _ _ _; exact ⟨[], t, by simp [compL], rfl, fun y hy => by simp at hy⟩
    | cons d l ih =>
      intro t acc hm hz ht
      have hz' : acc.length < LIM := by simp only [List.length_cons] at hz; exact Nat.lt_of_lt_of_le (Nat.lt_add_of_pos_right (Nat.succ_pos _)) hz
      have z := h d (hm d (by simp)) (μ1 ++ .lst acc :: t) (c1.apps _ (by simpa [flatC] using ht))
      cases hg : g (.d (enc d)) (wipeR ρ own) (μ1 ++ .lst acc :: t) with
      | rt _ _ => rw [hg] at z; exact z.elim
      | raise _ _ _ => rw [hg] at z; exact z.elim
      | stuck => rw [hg] at z; exact z.elim
      | nx ρ1 μx =>
        rw [hg, ws_nx] at z
        obtain ⟨v, M3, he, y, t', rfl, py, rfl, ht'⟩ := z.ex
        obtain ⟨ys, t2, k1, k2, k3⟩ := ih (t ++ t') (acc ++ [y]) (fun d' hd => hm d' (by simp [hd])) (by simp at hz ⊢; omega) (by rw [List.all_append, ht, ht']; rfl)
        refine ⟨y :: ys, t2, ?_, by simp [k2], fun w hw => by
          rcases List.mem_cons.mp hw with rfl | hw
          · exact py
          · exact k3 w hw⟩
        have g1 : (μ1 ++ Cel.lst acc :: t ++ t')[μ1.length]? = some (.lst acc) := by simp
        have g2 : (μ1 ++ Cel.lst acc :: t ++ t').set μ1.length (.lst (acc ++ [y])) = μ1 ++ .lst (acc ++ [y]) :: (t ++ t') := by simp
        rw [List.map_cons]
        unfold compL
        rw [hg]
        simp only [tTrue, he]
        rw [g1]
        simp only [if_pos hz', g2, k1]
        simp
  obtain ⟨ys, t2, k1, k2, k3⟩ := key xs [] [] (fun _ h => h) (by simpa using hl) rfl
  rw [k1]
  unfold compE
  have g1 : (μ1 ++ Cel.lst ([] ++ ys) :: t2)[μ1.length]? = some (.lst ([] ++ ys)) := by simp
  have g2 : (μ1 ++ Cel.lst ([] ++ ys) :: t2).set μ1.length .dead = μ1 ++ (.dead :: t2) := by simp
  simp only [g1, g2]
  rw [we_ok, cutM_app c1]
  simpa using q ys k2 k3
@[simp] theorem bls_mapf {β : Type} (f : β → Bool) (l : List β) : bls (l.map fun x => .bl (f x)) = some (l.map f) := by
  induction l with
  | nil => rfl
  | cons a l ih => simp [bls, ih]
@[simp] theorem bls_mapc {β : Type} (f : β → Bool) (l : List β) : bls (l.map (Dat.bl ∘ f)) = some (l.map f) := bls_mapf f l
@[simp] theorem bls_map' (l : List Bool) : bls (l.map .bl) = some l := by
  have := bls_mapf (fun b : Bool => b) l
  rwa [List.map_id'] at this
@[simp] theorem intsD_mapf {β : Type} (f : β → Int) (l : List β) : intsD (l.map fun x => .int (f x)) = some (l.map f) := by
  induction l with
  | nil => rfl
  | cons a l ih => simp [intsD, ih]
@[simp] theorem intsD_mapc {β : Type} (f : β → Int) (l : List β) : intsD (l.map (Dat.int ∘ f)) = some (l.map f) := intsD_mapf f l
@[simp] theorem intsD_map' (l : List Int) : intsD (l.map .int) = some l := by
  have := intsD_mapf (fun b : Int => b) l
  rwa [List.map_id'] at this
@[simp] theorem intsD_intsDat (l : List Int) : intsD (intsDat l) = some l := intsD_map' l
theorem lim1000' {n : Nat} (h : n ≤ 1000) : n ≤ LIM := Nat.le_trans h (by decide)
end DL
set_option Elab.async false
set_option linter.all false
set_option maxRecDepth 100000
set_option maxHeartbeats 4000000
namespace DL
open PySem PySem.Spec PyProof.Rows L2
section
variable {Q : DV → List Cel → Prop} {X : Exn → List Cel → Prop} {μ : List Cel} {ρ : Rho} {a b : EX} {x y : DV}
@[simp] theorem we_addCL {n : Nat} {b : List Dat} : WE (addD (.c n) (.d (.lst b)) μ) Q X = ∃ a, μ[n]? = some (.lst a) ∧ a.length + b.length ≤ 16777216 ∧ Q (.d (.lst (a ++ b))) μ := by
  cases h : μ[n]? with
  | none => simp [addD, h]
  | some c => cases c <;> simp [addD, h, we_ite]
@[simp] theorem we_addLC {n : Nat} {b : List Dat} : WE (addD (.d (.lst b)) (.c n) μ) Q X = ∃ a, μ[n]? = some (.lst a) ∧ b.length + a.length ≤ 16777216 ∧ Q (.d (.lst (b ++ a))) μ := by
  cases h : μ[n]? with
  | none => simp [addD, h]
  | some c => cases c <;> simp [addD, h, we_ite]
@[simp] theorem we_isiX {tt : List (String × Bool)} {cc : List (Nat × Bool)} : WE (isiX tt cc x μ) Q X = match tyNm x μ with
    | some t => ∃ b, tt.lookup t = some b ∧ Q (.d (.bl b)) μ
    | none => ∃ c b, insC x μ = some c ∧ cc.lookup c = some b ∧ Q (.d (.bl b)) μ := by
  unfold isiX
  cases tyNm x μ with
  | some t => cases h : tt.lookup t <;> simp [h]
  | none =>
    cases insC x μ with
    | none => simp
    | some c =>
      cases h : cc.lookup c with
      | none => simp [h]
      | some b => cases b <;> simp [h]
@[simp] theorem we_binOwn {c : Nat} {g : Gn} : WE (binOwnG c g x y μ) Q X = (insC x μ = some c ∧ insC y μ = some c ∧ WE (g [x, y] μ) Q X0) := by
  unfold binOwnG
  by_cases h : insC x μ = some c <;> by_cases h2 : insC y μ = some c <;> simp [h, h2, we_noR]
@[simp] theorem we_unOwn {c : Nat} {g : Gn} : WE (unOwnG c g x μ) Q X = (insC x μ = some c ∧ WE (g [x] μ) Q X0) := by
  unfold unOwnG
  by_cases h : insC x μ = some c <;> simp [h, we_noR]
@[simp] theorem we_eqOwn {neg : Bool} {c : Nat} {tt : List String} {cc : List Nat} {g : Gn} : WE (eqOwnG neg c tt cc g x y μ) Q X = (insC x μ = some c ∧ okTy tt cc y μ = true ∧ WE (g [x, y] μ) (fun v μ => ∃ b, v = .d (.bl b) ∧ Q (.d (.bl (negB neg b))) μ) X0) := by
  unfold eqOwnG
  by_cases h : insC x μ = some c <;> by_cases h2 : okTy tt cc y μ = true
  · simp only [h, h2, and_self, if_true, true_and, we_bind, we_noR]
    cases g [x, y] μ with
    | stuck => rfl
    | raise e μ => rfl
    | ok v μ =>
      simp only [we_ok]
      cases v with
      | c n => simp
      | f _ _ _ _ _ _ => simp
      | d x => cases x <;> simp
  · simp [h, h2]
  · simp [h]
  · simp [h]
@[simp] theorem we_lenOwn {c : Nat} {g : Gn} : WE (lenOwnG c g x μ) Q X = (insC x μ = some c ∧ WE (g [x] μ) (fun v μ => ∃ n, v = .d (.int n) ∧ (0 ≤ n ∧ n < 2 ^ 63) ∧ Q (.d (.int n)) μ) X0) := by
  unfold lenOwnG
  by_cases h : insC x μ = some c
  · simp only [h, if_true, true_and, we_bind, we_noR]
    cases g [x] μ with
    | stuck => rfl
    | raise e μ => rfl
    | ok v μ =>
      simp only [we_ok]
      cases v with
      | c n => simp
      | f _ _ _ _ _ _ => simp
      | d x =>
        cases x with
        | int i => simp [we_ite]
        | _ => simp
  · simp [h]
@[simp] theorem we_reprOwn {c : Nat} {g : Gn} : WE (reprOwnG c g x μ) Q X = (insC x μ = some c ∧ WE (g [x] μ) (fun v μ => ∃ n, v = .d (.str n) ∧ Q (.d (.str n)) μ) X0) := by
  unfold reprOwnG
  by_cases h : insC x μ = some c
  · simp only [h, if_true, true_and, we_bind, we_noR]
    cases g [x] μ with
    | stuck => rfl
    | raise e μ => rfl
    | ok v μ =>
      simp only [we_ok]
      cases v with
      | c n => simp
      | f _ _ _ _ _ _ => simp
      | d x => cases x <;> simp
  · simp [h]
@[simp] theorem we_fmtS {s : List Nat} : WE (fmtG (.d (.str s)) μ) Q X = Q (.d (.str s)) μ := rfl
@[simp] theorem we_fmtI {i : Int} : WE (fmtG (.d (.int i)) μ) Q X = ((i.natAbs.log2 < 1920 ∧ (intS i).length ≤ 16777216) ∧ Q (.d (.str (intS i))) μ) := we_ite
@[simp] theorem we_js0 {acc : List Nat} : WE (jsG [] acc ρ μ) Q X = Q (.d (.str acc)) μ := rfl
@[simp] theorem we_js1 {xs : List EX} {acc : List Nat} : WE (jsG (a :: xs) acc ρ μ) Q X = WE (a ρ μ) (fun v μ => ∃ s, v = .d (.str s) ∧ acc.length + s.length ≤ 16777216 ∧ WE (jsG xs (acc ++ s) ρ μ) Q X) X := by
  show WE (Out.bind _ _) Q X = _
  rw [we_bind]
  congr 1
  funext v μ
  cases v with
  | c n => simp
  | f _ _ _ _ _ _ => simp
  | d x =>
    cases x with
    | str s => simp [we_ite]
    | _ => simp
@[simp] theorem we_inD {neg : Bool} {v : Dat} : WE (inD neg (.d v) y μ) Q X = ∃ ds, itemsD y μ = some ds ∧ (flatD v = true ∧ ds.all flatD = true) ∧ Q (.d (.bl (negB neg (ds.any fun z => eqD z v)))) μ := by
  unfold inD
  cases h : itemsD y μ with
  | none => simp
  | some ds => simp only [Option.some.injEq, exists_eq_left']; exact we_ite
@[simp] theorem we_lt1 {g : G2} : WE (eLt1 g a b ρ μ) Q X = WE (a ρ μ) (fun x μ => ∃ ds, x = .d (.tup ds) ∧ WE (b ρ μ) (fun y μ => WE (g (.d (.tup ds)) y μ) Q X) X) X := by
  unfold eLt1
  rw [we_bind]
  congr 1
  funext x μ
  cases x with
  | c n => simp
  | f _ _ _ _ _ _ => simp
  | d x =>
    cases x with
    | tup ds => simp [we_bind]
    | _ => simp
@[simp] theorem we_tupIx {ds : List Dat} {v : Dat} : WE (tupIndexD (.d (.tup ds)) (.d v) μ) Q X = ((flatD v = true ∧ ds.all flatD = true ∧ ds.findIdx (fun z => eqD z v) < ds.length) ∧ Q (.d (.int (ds.findIdx (fun z => eqD z v) : Nat))) μ) := we_ite
end
end DL
set_option Elab.async false
set_option linter.all false
set_option maxRecDepth 100000
set_option maxHeartbeats 4000000
namespace DL
open PySem PySem.Spec PyProof.Rows L2
abbrev reprChar := PySem.Builtin.Str.reprChar
def Asc (x : PySem.Str) : Prop := ∀ c ∈ x.cps.toList, c < 128
theorem Asc.app {a b : PySem.Str} (ha : Asc a) (hb : Asc b) : Asc (a ++ b) := by
  intro c hc
  rw [show (a ++ b).cps = a.cps ++ b.cps from rfl, Array.toList_append, List.mem_append] at hc
  exact hc.elim (ha c) (hb c)
theorem digit_asc (n : Nat) : (Nat.digitChar n).toNat < 128 := by
  by_cases h : n < 16
  · exact (by decide : ∀ n < 16, (Nat.digitChar n).toNat < 128) n h
  · unfold Nat.digitChar
    rw [if_neg (by omega), if_neg (by omega), if_neg (by omega), if_neg (by omega), if_neg (by omega), if_neg (by omega), if_neg (by omega), if_neg (by omega), if_neg (by omega), if_neg (by omega), if_neg (by omega), if_neg (by omega), if_neg (by omega), if_neg (by omega), if_neg (by omega), if_neg (by omega)]
    decide
theorem digits_asc : ∀ (f n : Nat) (ds : List Char), (∀ c ∈ ds, c.toNat < 128) → ∀ c ∈ Nat.toDigitsCore 10 f n ds, c.toNat < 128
  | 0, n, ds, h => by simpa [Nat.toDigitsCore] using h
  | f + 1, n, ds, h => by
    have h2 : ∀ c ∈ Nat.digitChar (n % 10) :: ds, c.toNat < 128 := fun c hc => by
      rcases List.mem_cons.mp hc with rfl | hc
      · exact digit_asc _
      · exact h c hc
    unfold Nat.toDigitsCore
    simp only
    split
    · exact h2
    · exact digits_asc f (n / 10) _ h2
theorem asc_ofString {s : String} (h : ∀ c ∈ s.toList, c.toNat < 128) : Asc (Str.ofString s) := by
  intro c hc
  rw [Str.ofString_eq_toList] at hc
  simp only [List.mem_map] at hc
  obtain ⟨d, hd, rfl⟩ := hc
  exact h d hd
theorem repr_asc (n : Nat) : ∀ c ∈ (Nat.repr n).toList, c.toNat < 128 := by
  have := digits_asc (n + 1) n [] (by simp)
  simpa [Nat.repr, Nat.toDigits] using this
theorem asc_int (i : Int) : Asc (Str.ofString (toString i)) := by
  refine asc_ofString ?_
  cases i with
  | ofNat m => exact repr_asc m
  | negSucc m =>
    show ∀ c ∈ ("-" ++ Nat.repr (m + 1)).toList, _
    intro c hc
    rw [String.toList_append, List.mem_append] at hc
    rcases hc with hc | hc
    · revert c; decide
    · exact repr_asc _ c hc
theorem reprChar_asc : ∀ q ∈ [34, 39], ∀ c < 128, (reprChar q c).all (fun d => decide (d < 128)) = true := by decide +kernel
theorem foldl_asc (q : Nat) (hq : q = 34 ∨ q = 39) : ∀ (l : List Nat) (acc : Array Nat), (∀ c ∈ acc.toList, c < 128) → (∀ c ∈ l, c < 128) → ∀ c ∈ (l.foldl (fun out c => out ++ (reprChar q c).toArray) acc).toList, c < 128
  | [], acc, h, _ => h
  | c :: r, acc, h, hl => by
    rw [List.foldl_cons]
    refine foldl_asc q hq r _ (fun d hd => ?_) fun d hd => hl d (List.mem_cons_of_mem _ hd)
    rw [Array.toList_append, List.mem_append] at hd
    rcases hd with hd | hd
    · exact h d hd
    · have z := reprChar_asc q (by rcases hq with rfl | rfl <;> simp) c (hl c (List.mem_cons_self ..))
      exact of_decide_eq_true (List.all_eq_true.mp z d hd)
theorem quote_two (x : PySem.Str) : reprQuote x = 34 ∨ reprQuote x = 39 := by unfold reprQuote; split <;> simp
theorem asc_repr {x : PySem.Str} (h : Asc x) : Asc (reprText x) := by
  unfold reprText Asc
  intro c hc
  have q : reprQuote x < 128 := by rcases quote_two x with e | e <;> omega
  rw [Array.toList_push, List.mem_append, ← Array.foldl_toList] at hc
  rcases hc with hc | hc
  · refine foldl_asc _ (quote_two x) _ _ (fun d hd => ?_) h c hc
    simp at hd
    omega
  · simp at hc
    omega
theorem asc_lit {s : String} (h : (s.toList.all fun c => decide (c.toNat < 128)) = true) : Asc (Str.ofString s) := asc_ofString fun c hc => of_decide_eq_true (List.all_eq_true.mp h c hc)
theorem asc_from : ∀ (ts : List PySem.Str) (k : Nat) (acc : PySem.Str), Asc acc → (∀ t ∈ ts, Asc t) → Asc (textFrom k acc ts)
  | [], _, _, h, _ => h
  | t :: ts, k, acc, h, ht => by
    unfold textFrom
    refine asc_from ts _ _ (Asc.app (Asc.app h ?_) (ht t (List.mem_cons_self ..))) fun u hu => ht u (List.mem_cons_of_mem _ hu)
    split <;> exact asc_lit (by decide)
theorem asc_list {ts : List PySem.Str} (h : ∀ t ∈ ts, Asc t) : Asc (listText ts) := Asc.app (asc_from ts 0 _ (asc_lit (by decide)) h) (asc_lit (by decide))
theorem asc_join : ∀ {ts : List PySem.Str}, (∀ t ∈ ts, Asc t) → Asc (PySem.Str.join ", " ts)
  | [], _ => fun c hc => by simp [PySem.Str.join, PySem.Str.empty] at hc
  | [x], h => h x (List.mem_cons_self ..)
  | x :: y :: r, h => by
    unfold PySem.Str.join
    exact Asc.app (Asc.app (h x (List.mem_cons_self ..)) (asc_lit (by decide))) (asc_join fun t ht => h t (List.mem_cons_of_mem _ ht))
theorem asc_tuple {ts : List PySem.Str} (h : ∀ t ∈ ts, Asc t) : Asc (tupleText ts) := by
  unfold tupleText
  refine Asc.app (Asc.app (asc_lit (by decide)) (asc_join h)) ?_
  split <;> exact asc_lit (by decide)
end DL
set_option Elab.async false
set_option linter.all false
set_option maxRecDepth 100000
set_option maxHeartbeats 4000000
namespace DL
open PySem PySem.Spec PyProof.Rows L2
section
variable {Q : DV → List Cel → Prop} {X : Exn → List Cel → Prop} {ρ : Rho} {μ : List Cel} {a b : EX} {x y : DV}
@[simp] theorem we_getOwn {c : Nat} {g : Gn} : WE (getOwnG c g x y μ) Q X = (insC x μ = some c ∧ WE (g [x, y] μ) Q X0) := by
  unfold getOwnG
  split
  · rename_i h
    simp [h, we_noR]
  · rename_i h
    simp [h]
@[simp] theorem we_boolOwn {c : Nat} : WE (boolOwnG c x μ) Q X = (insC x μ = some c ∧ Q (.d (.bl true)) μ) := we_ite
@[simp] theorem we_strI {i : Int} : WE (strG (.d (.int i)) μ) Q X = ((i.natAbs.log2 < 1920 ∧ (intS i).length ≤ 16777216) ∧ Q (.d (.str (intS i))) μ) := we_ite
@[simp] theorem we_leS {s t : List Nat} : WE (leD (.d (.str s)) (.d (.str t)) μ) Q X = Q (.d (.bl (!ltL t s))) μ := rfl
@[simp] theorem we_ltS {s t : List Nat} : WE (ltD (.d (.str s)) (.d (.str t)) μ) Q X = Q (.d (.bl (ltL s t))) μ := rfl
end
section
variable {N : Rho → List Cel → Prop} {R : DV → List Cel → Prop} {X : Exn → Rho → List Cel → Prop} {ρ : Rho} {μ : List Cel}
@[simp] theorem ws_gTS {n : Nat} {gs : GXs} {ds : List Dat} : WS (gTS n gs (.d (.tup ds)) ρ μ) N R X = ((n ≤ ds.length ∧ ds.length ≤ 16384) ∧ WS (gs (ds.take n ++ [.lst (ds.drop n)]) ρ μ) N R X) := by
  show WS (if n ≤ ds.length ∧ ds.length ≤ 16384 then gs (ds.take n ++ [.lst (ds.drop n)]) ρ μ else .stuck) N R X = _
  by_cases h : n ≤ ds.length ∧ ds.length ≤ 16384
  · simp [h]
  · simp [h]
end
theorem atI_int {β : Type} (l : List β) (i : Int) (h0 : 0 ≤ i) (h1 : i.toNat < l.length) : atI l i = some l[i.toNat] := by
  have h2 : ¬ (i < 0) := by omega
  have h3 : i < (l.length : Int) := by omega
  simp [atI, ixN, h0, h3, h1]
end DL
set_option Elab.async false
set_option linter.all false
set_option maxRecDepth 100000
set_option maxHeartbeats 4000000
namespace DL
open PySem PySem.Spec PyProof.Rows L2
def starItems : DV → List Cel → Option (List Dat)
  | .d (.tup ds), _ => some ds
  | .d (.lst ds), _ => some ds
  | .d (.fl ds), _ => some ds
  | .c n, μ => (match μ[n]? with
    | some (.lst ds) => some ds
    | _ => none)
  | _, _ => none
def asS (x : EX) (xs : EXs) : EXs := fun ρ μ => (x ρ μ).bind fun v μ => match starItems v μ with
  | some ds => (xs ρ μ).bind fun vs μ => .ok (ds.map .d ++ vs) μ
  | none => .stuck
abbrev GVs := List DV → Rho → List Cel → SOut
def gvN : GVs := fun vs ρ μ => match vs with
  | [] => .nx ρ μ
  | _ => .stuck
def gvC (g : GX) (gs : GVs) : GVs := fun vs ρ μ => match vs with
  | v :: vs => (g v ρ μ).bind (gs vs)
  | [] => .stuck
def sParN (n : Nat) (as : EXs) (gs : GVs) : SX := fun ρ μ => (as ρ μ).sbind ρ fun vs μ => if vs.length = n ∧ n ≤ 1000 then gs vs ρ μ else .stuck
def joinN (sep : List Nat) : List (List Nat) → List Nat
  | [] => []
  | [x] => x
  | x :: y :: r => x ++ (sep ++ joinN sep (y :: r))
def strsD : List Dat → Option (List (List Nat))
  | [] => some []
  | .str s :: r => (strsD r).map (s :: ·)
  | _ :: _ => none
def joinD : G2 := fun x y μ => match x with
  | .d (.str a) => (match (starItems y μ).bind strsD with
    | some ts => if (ts.map (·.length)).sum + ts.length * a.length ≤ 16777216 then okD (.str (joinN a ts)) μ else .stuck
    | none => .stuck)
  | _ => .stuck
def eStr1 (g : G2) (a b : EX) : EX := fun ρ μ => (a ρ μ).bind fun x μ => match x with
  | .d (.str s) => (b ρ μ).bind fun y μ => g (.d (.str s)) y μ
  | _ => .stuck
def mulE : G2 := fun x y μ => match x, y with
  | .d (.str a), .d (.int b) => if -(2 ^ 62) < b ∧ b < 2 ^ 62 ∧ a.length * b.toNat ≤ LIM then okD (.str (List.replicate b.toNat a).flatten) μ else .stuck
  | .d (.tup a), .d (.int b) => if a ≠ [] ∧ 2 ≤ b ∧ b ≤ 1000 ∧ a.length ≤ 1000 then okD (.tup (List.replicate b.toNat a).flatten) μ else .stuck
  | x, y => mulD x y μ
end DL
set_option Elab.async false
set_option linter.all false
set_option maxRecDepth 100000
set_option maxHeartbeats 4000000
namespace DL
open PySem PySem.Spec PyProof.Rows L2
def eCallC (c n m : Nat) (g : Gn) (as zs : EXs) : EX := fun ρ μ => (as ρ μ).bind fun xs μ => (zs ρ μ).bind fun ys μ => if xs.length = n ∧ ys.length = m then g (.d (.cls c) :: (xs ++ ys)) μ else .stuck
end DL
set_option Elab.async false
set_option linter.all false
set_option maxRecDepth 100000
set_option maxHeartbeats 4000000
namespace DL
open PySem PySem.Spec PyProof.Rows L2
def revT : G1
  | .d (.tup ds), μ => okD (.tup ds.reverse) μ
  | _, _ => .stuck
end DL
set_option Elab.async false
set_option linter.all false
set_option maxRecDepth 100000
set_option maxHeartbeats 4000000
namespace DL
open PySem PySem.Spec PyProof.Rows L2
def cdat : DV → List Cel → Option Dat
  | .d a, _ => some a
  | .c n, μ => (match μ[n]? with
    | some (.lst ds) => some (.lst ds)
    | _ => none)
  | .f _ _ _ _ _ _, _ => none
def eqC (neg : Bool) : G2 := fun x y μ => match cdat x μ, cdat y μ with
  | some a, some b => if shal 60 a && shal 60 b then okD (.bl (negB neg (eqD a b))) μ else .stuck
  | _, _ => .stuck
end DL
set_option Elab.async false
set_option linter.all false
set_option maxRecDepth 100000
set_option maxHeartbeats 4000000
namespace DL
open PySem PySem.Spec PyProof.Rows L2
def zipM2 : DV → DV → Option (List Dat)
  | .d (.lst ds), .d (.tup es) => some (zipD ds es)
  | _, _ => none
def iZipM (a b : EX) : IX := fun ρ μ => (a ρ μ).bind fun v μ => (b ρ μ).bind fun w μ => ofS (zipM2 v w) μ
end DL
set_option Elab.async false
set_option linter.all false
set_option maxRecDepth 100000
set_option maxHeartbeats 4000000
namespace DL
open PySem PySem.Spec PyProof.Rows L2
section
variable {Q : DV → List Cel → Prop} {X : Exn → List Cel → Prop} {ρ : Rho} {μ : List Cel} {a b : EX} {x y : DV}
@[simp] theorem we_callC {c n m : Nat} {g : Gn} {as zs : EXs} : WE (eCallC c n m g as zs ρ μ) Q X = WE (as ρ μ) (fun xs μ => WE (zs ρ μ) (fun ys μ => xs.length = n ∧ ys.length = m ∧ WE (g (.d (.cls c) :: (xs ++ ys)) μ) Q X) X) X := by
  unfold eCallC
  rw [we_bind]
  congr 1
  funext xs μ
  rw [we_bind]
  congr 1
  funext ys μ
  by_cases h : xs.length = n ∧ ys.length = m
  · simp [h]
  · simp only [h, if_false, we_stuck]
    by_cases h1 : xs.length = n
    · have h2 : ¬ ys.length = m := fun e => h ⟨h1, e⟩
      simp [h2]
    · simp [h1]
@[simp] theorem we_asS {as : EXs} {Q : List DV → List Cel → Prop} : WE (asS a as ρ μ) Q X = WE (a ρ μ) (fun x μ => ∃ ds, starItems x μ = some ds ∧ WE (as ρ μ) (fun xs μ => Q (ds.map .d ++ xs) μ) X) X := by
  unfold asS
  rw [we_bind]
  congr 1
  funext x μ
  cases h : starItems x μ with
  | none => simp
  | some ds => simp [we_bind]
@[simp] theorem we_str1 {g : G2} : WE (eStr1 g a b ρ μ) Q X = WE (a ρ μ) (fun x μ => ∃ s, x = .d (.str s) ∧ WE (b ρ μ) (fun y μ => WE (g (.d (.str s)) y μ) Q X) X) X := by
  unfold eStr1
  rw [we_bind]
  congr 1
  funext x μ
  cases x with
  | c n => simp
  | f _ _ _ _ _ _ => simp
  | d x =>
    cases x with
    | str s => simp [we_bind]
    | _ => simp
@[simp] theorem we_join {s : List Nat} : WE (joinD (.d (.str s)) y μ) Q X = ∃ ts, (starItems y μ).bind strsD = some ts ∧ (ts.map (·.length)).sum + ts.length * s.length ≤ 16777216 ∧ Q (.d (.str (joinN s ts))) μ := by
  unfold joinD
  dsimp only
  cases h : (starItems y μ).bind strsD with
  | none => simp
  | some ts => simp [we_ite]
@[simp] theorem we_mulES {s : List Nat} {i : Int} : WE (mulE (.d (.str s)) (.d (.int i)) μ) Q X = ((-(2 ^ 62) < i ∧ i < 2 ^ 62 ∧ s.length * i.toNat ≤ 16777216) ∧ Q (.d (.str (List.replicate i.toNat s).flatten)) μ) := we_ite
@[simp] theorem we_mulET {s : List Dat} {i : Int} : WE (mulE (.d (.tup s)) (.d (.int i)) μ) Q X = ((s ≠ [] ∧ 2 ≤ i ∧ i ≤ 1000 ∧ s.length ≤ 1000) ∧ Q (.d (.tup (List.replicate i.toNat s).flatten)) μ) := we_ite
@[simp] theorem we_mulEI {a b : Int} : WE (mulE (.d (.int a)) (.d (.int b)) μ) Q X = WE (mulD (.d (.int a)) (.d (.int b)) μ) Q X := rfl
@[simp] theorem we_mulEL {a : List Dat} {b : Int} : WE (mulE (.d (.lst a)) (.d (.int b)) μ) Q X = WE (mulD (.d (.lst a)) (.d (.int b)) μ) Q X := rfl
@[simp] theorem we_eqC {neg : Bool} : WE (eqC neg x y μ) Q X = ∃ a b, cdat x μ = some a ∧ cdat y μ = some b ∧ (shal 60 a && shal 60 b) = true ∧ Q (.d (.bl (negB neg (eqD a b)))) μ := by
  unfold eqC
  cases h1 : cdat x μ with
  | none => simp
  | some a =>
    cases h2 : cdat y μ with
    | none => simp
    | some b => simp [we_ite]
@[simp] theorem we_revT {ds : List Dat} : WE (revT (.d (.tup ds)) μ) Q X = Q (.d (.tup ds.reverse)) μ := rfl
@[simp] theorem we_iZipM {Q : List Dat → List Cel → Prop} : WE (iZipM a b ρ μ) Q X = WE (a ρ μ) (fun v μ => WE (b ρ μ) (fun w μ => ∃ ds, zipM2 v w = some ds ∧ Q ds μ) X) X := by
  unfold iZipM
  rw [we_bind]
  congr 1
  funext v μ
  rw [we_bind]
  congr 1
  funext w μ
  cases zipM2 v w <;> simp [ofS]
@[simp] theorem strsD_map (l : List (List Nat)) : strsD (l.map .str) = some l := by
  induction l with
  | nil => rfl
  | cons a l ih => simp [strsD, ih]
end
section
variable {N : Rho → List Cel → Prop} {R : DV → List Cel → Prop} {X : Exn → Rho → List Cel → Prop} {ρ : Rho} {μ : List Cel}
@[simp] theorem ws_parN {n : Nat} {as : EXs} {gs : GVs} : WS (sParN n as gs ρ μ) N R X = WE (as ρ μ) (fun vs μ => (vs.length = n ∧ n ≤ 1000) ∧ WS (gs vs ρ μ) N R X) (fun e μ => X e ρ μ) := by
  unfold sParN
  rw [ws_sbind]
  congr 1
  funext vs μ
  by_cases h : vs.length = n ∧ n ≤ 1000
  · simp [h]
  · rw [if_neg h]
    simp only [ws_stuck, eq_iff_iff, false_iff]
    exact fun q => h q.1
@[simp] theorem ws_gvN : WS (gvN [] ρ μ) N R X = N ρ μ := rfl
@[simp] theorem ws_gvC {g : GX} {gs : GVs} {v : DV} {vs : List DV} : WS (gvC g gs (v :: vs) ρ μ) N R X = WS (g v ρ μ) (fun ρ μ => WS (gs vs ρ μ) N R X) R X := ws_bind
end
end DL
set_option Elab.async false
set_option linter.all false
set_option maxRecDepth 100000
set_option maxHeartbeats 4000000
namespace DL
open PySem PySem.Spec PyProof.Rows L2
end DL
set_option Elab.async false
set_option linter.all false
set_option maxRecDepth 100000
set_option maxHeartbeats 4000000
namespace DL
open PySem PySem.Spec PyProof.Rows L2
def sAug (i : Nat) (x : EX) : SX := fun ρ μ => match ρ[i]? with
  | some (some (.d (.int a))) => (x ρ μ).sbind ρ fun v μ' => match v with
    | .d (.int b) => .nx (ρ.set i (some (.d (.int (a + b))))) μ'
    | _ => .stuck
  | _ => .stuck
def gTL (n : Nat) (gs : GXs) : GX := fun v ρ μ => match v with
  | .d (.lst ds) => if ds.length = n then gs ds ρ μ else .stuck
  | _ => .stuck
section
variable {X : Cx} {W : WX} {pos : Pos} {e : Expr} {x : EX} {es : List Expr} {gs : GXs}
theorem dg_tupL {k n : Nat} (hc : X.calm = true) (h : DGs X W es gs) (hn : (assignEach es X.env).length = n := by rfl) (hst : (assignEach es X.env).findIdx? (·.1) = none := by rfl) : DG X W (.Tuple es k pos) (gTL n gs) := ⟨PG.of (pg_unl hc h.pgs hn hst) fun x σ H Q ⟨F, α, ρ, μ, v, rt, m, s, r, o⟩ => by
  unfold gTL at o
  split at o
  · obtain ⟨z, a, xs, rfl, hx, rr⟩ := r
    split at o
    · rename_i hl
      exact ⟨a, xs, rfl, SqL.of (m.fz _ _ hx), by rw [← rr.length]; exact hl, F, α, ρ, μ, _, rt, m, s, rr, o⟩
    · exact o.elim
  · exact o.elim⟩
end
section
variable {Q : DV → List Cel → Prop} {X : Exn → List Cel → Prop} {N : Rho → List Cel → Prop} {R : DV → List Cel → Prop} {Xs : Exn → Rho → List Cel → Prop} {ρ : Rho} {μ : List Cel} {x : EX} {gs : GXs}
@[simp] theorem ws_aug {i : Nat} : WS (sAug i x ρ μ) N R Xs = ∃ a, ρ[i]? = some (some (.d (.int a))) ∧ WE (x ρ μ) (fun v μ' => ∃ b, v = .d (.int b) ∧ N (ρ.set i (some (.d (.int (a + b))))) μ') (fun x μ => Xs x ρ μ) := by
  unfold sAug
  split
  · rename_i a e1
    rw [e1, ws_sbind]
    have : ∀ c, (some (some (DV.d (Dat.int a))) = some (some (DV.d (Dat.int c)))) = (a = c) := fun c => by simp
    simp only [this, exists_eq_left']
    congr 1
    funext v μ'
    cases v with
    | c n => simp
    | f _ _ _ _ _ _ => simp
    | d v =>
      cases v with
      | int b => simp
      | _ => simp
  · rename_i h
    simp only [ws_stuck, eq_iff_iff, false_iff]
    rintro ⟨a, e, _⟩
    exact h a e
@[simp] theorem ws_gTL {n : Nat} {ds : List Dat} : WS (gTL n gs (.d (.lst ds)) ρ μ) N R Xs = (ds.length = n ∧ WS (gs ds ρ μ) N R Xs) := by
  unfold gTL
  dsimp only
  split <;> simp [*]
end
end DL
set_option Elab.async false
set_option linter.all false
set_option maxRecDepth 100000
set_option maxHeartbeats 4000000
namespace DL
open PySem PySem.Spec PyProof.Rows L2
end DL
set_option Elab.async false
set_option linter.all false
set_option maxRecDepth 100000
set_option maxHeartbeats 4000000
namespace DL
open PySem PySem.Spec PyProof.Rows L2
theorem All2.map {β γ δ : Type} {F : β → γ → Prop} {G : β → δ → Prop} {f : δ → γ} (h : ∀ x y, F x y → ∃ z, y = f z ∧ G x z) : ∀ {xs : List β} {ys : List γ}, All2 F xs ys → ∃ zs, ys = zs.map f ∧ All2 G xs zs
  | _, _, .nil => ⟨[], rfl, .nil⟩
  | _, _, .cons h1 t => by
    obtain ⟨z, rfl, hz⟩ := h _ _ h1
    obtain ⟨zs, rfl, hzs⟩ := All2.map h t
    exact ⟨z :: zs, rfl, .cons hz hzs⟩
theorem All2.len {β γ : Type} {F : β → γ → Prop} : ∀ {xs : List β} {ys : List γ}, All2 F xs ys → ys.length = xs.length
  | _, _, .nil => rfl
  | _, _, .cons _ t => by simp [All2.len t]
end DL
set_option Elab.async false
set_option linter.all false
set_option maxRecDepth 100000
set_option maxHeartbeats 4000000
namespace DL
open PySem PySem.Spec PyProof.Rows L2
structure PMC (X : Cx) (cases : List MatchCase) (t : Str → TS) : Prop where
  run : ∀ (pins : List (Addr × Obj)) (s : Shared) (σ : St) (H : Hp) (D : Ends) (v : Str) (u : Value) (first : Bool), Inv X pins σ H s → RelV (.str v) u → t v D σ H → wpAny (model X.prog X.w) X.A (matchCases cases X.env u first) (SP X pins D) X.xe s
abbrev MCs := List (List (List Nat) × SX)
def matchL (s : List Nat) : MCs → SX
  | [], ρ, μ => .nx ρ μ
  | (ks, b) :: r, ρ, μ => if ks.contains s then b ρ μ else matchL s r ρ μ
def sMatch (x : EX) (cs : MCs) : SX := fun ρ μ => (x ρ μ).sbind ρ fun v μ' => match v with
  | .d (.str s) => matchL s cs ρ μ'
  | _ => .stuck
section
variable {X : Cx} {W : WX} {pos : Pos} {e : Expr} {x : EX}
theorem PMC.of {cases : List MatchCase} {t t' : Str → TS} (h : PMC X cases t) (i : ∀ v D σ H, t' v D σ H → t v D σ H) : PMC X cases t' := ⟨fun pins s σ H D v u first I r hw => h.run pins s σ H D v u first I r (i v D σ H hw)⟩
end
section
variable {N : Rho → List Cel → Prop} {R : DV → List Cel → Prop} {X : Exn → Rho → List Cel → Prop} {ρ : Rho} {μ : List Cel} {x : EX}
@[simp] theorem ws_match {cs : MCs} : WS (sMatch x cs ρ μ) N R X = WE (x ρ μ) (fun v μ' => ∃ s, v = .d (.str s) ∧ WS (matchL s cs ρ μ') N R X) (fun x μ => X x ρ μ) := by
  unfold sMatch
  rw [ws_sbind]
  congr 1
  funext v μ'
  cases v with
  | c n => simp
  | f _ _ _ _ _ _ => simp
  | d v =>
    cases v with
    | str s => simp
    | _ => simp
@[simp] theorem ws_matchN {s : List Nat} : WS (matchL s [] ρ μ) N R X = N ρ μ := rfl
@[simp] theorem ws_matchC {s : List Nat} {ks : List (List Nat)} {b : SX} {cs : MCs} : WS (matchL s ((ks, b) :: cs) ρ μ) N R X = if ks.contains s then WS (b ρ μ) N R X else WS (matchL s cs ρ μ) N R X := by
  show WS (if ks.contains s then b ρ μ else matchL s cs ρ μ) N R X = _
  split <;> rfl
end
end DL
set_option Elab.async false
set_option linter.all false
set_option maxRecDepth 100000
set_option maxHeartbeats 4000000
namespace DL
open PySem PySem.Spec PyProof.Rows L2
def eCallS (g : Gn) (as : EXs) : EX := fun ρ μ => (as ρ μ).bind fun xs μ => g xs μ
end DL
set_option Elab.async false
set_option linter.all false
set_option maxRecDepth 100000
set_option maxHeartbeats 4000000
namespace DL
open PySem PySem.Spec PyProof.Rows L2
end DL
set_option Elab.async false
set_option linter.all false
set_option maxRecDepth 100000
set_option maxHeartbeats 4000000
namespace DL
open PySem PySem.Spec PyProof.Rows L2
/-- a dict of the module -/
structure TabF (K : Fr) (w : World) (a : Addr) (tbl : List (List Nat × Dat)) : Prop where
  kd : ∃ es n, KDict K w a es n
  at_ : ∀ s, ∃ r, PySem.W.nsIn K a (sV s) = some r ∧ ((∃ d u, tbl.lookup s = some d ∧ r = some u ∧ kOk K d u = true) ∨ (tbl.lookup s = none ∧ r = none))
theorem keys_miss {P : Params} {x : Str} : ∀ {l : List DictEntry} {ks : List Str}, l.map He.keyOf = He.keysIn P ks → x ∉ ks → l.find? (·.key.isStr x) = none ∧ l.any (·.refKey) = false
  | [], _, _, _ => ⟨rfl, rfl⟩
  | e :: r, [], h, _ => by cases h
  | e :: r, k :: ks, h, hx => by
    have h1 : He.keyOf e :: r.map He.keyOf = some (k, PyData.keyHash P k) :: He.keysIn P ks := h
    injection h1 with h2 h3
    obtain ⟨a, b⟩ := keys_miss (l := r) h3 fun q => hx (List.mem_cons_of_mem _ q)
    obtain ⟨key, hash, val⟩ := e
    unfold He.keyOf at h2
    split at h2
    · rename_i z t q
      have h4 := Option.some.inj h2
      obtain ⟨h5, h6⟩ := Prod.mk.inj h4
      subst h5
      dsimp only at q
      subst q
      have hne : z ≠ x := fun e => hx (by rw [e]; exact List.mem_cons_self ..)
      refine ⟨?_, ?_⟩
      · rw [List.find?_cons]
        have : (Value.str z t).isStr x = false := by simp [Value.isStr, hne]
        simp only [this]
        exact a
      · rw [List.any_cons, b]
        rfl
    · cases h2
theorem mem_lookup {d : Dat} {s : List Nat} : ∀ {l : List (List Nat × Dat)}, l.lookup s = some d → (s, d) ∈ l
  | [], h => by cases h
  | (k, v) :: l, h => by
    by_cases e : s = k
    · subst e
      simp [List.lookup] at h
      subst h
      exact List.mem_cons_self ..
    · have e2 : (s == k) = false := by simpa using e
      simp only [List.lookup, e2] at h
      exact List.mem_cons_of_mem _ (mem_lookup h)
theorem tab_of {K : Fr} {w : World} {a : Addr} {tbl : List (List Nat × Dat)} (h : He.dicW K a = some (He.keysIn w.params (tbl.map fun q => sV q.1))) (hv : tabV K a tbl = true) : TabF K w a tbl := by
  obtain ⟨es, n, D⟩ := He.dicW_ok h
  refine ⟨⟨es, n, D⟩, fun s => ?_⟩
  cases q : tbl.lookup s with
  | some d =>
    have hm : (s, d) ∈ tbl := mem_lookup q
    have z := List.all_eq_true.mp hv (s, d) hm
    dsimp only at z
    cases e : PySem.W.nsIn K a (sV s) with
    | none => rw [e] at z; cases z
    | some r =>
      rw [e] at z
      cases r with
      | none => cases z
      | some u => exact ⟨some u, rfl, .inl ⟨d, u, rfl, rfl, z⟩⟩
  | none =>
    have hl : es.toList.map He.keyOf = He.keysIn w.params (tbl.map fun q => sV q.1) := by
      unfold He.dicW at h
      rw [D.at_] at h
      dsimp only at h
      split at h
      · exact Option.some.inj h
      · cases h
    have hx : sV s ∉ tbl.map fun q => sV q.1 := fun hm => by
      obtain ⟨p, hp, e⟩ := List.mem_map.mp hm
      have e2 := sV_inj e
      subst e2
      have z := List.lookup_eq_none_iff.mp q p hp
      simp at z
    obtain ⟨m1, m2⟩ := keys_miss hl hx
    refine ⟨none, ?_, .inr ⟨rfl, rfl⟩⟩
    unfold PySem.W.nsIn
    rw [D.at_]
    dsimp only
    rw [m1]
    dsimp only
    rw [m2]
    rfl
def eDGet (tbl : List (List Nat × Dat)) (x : EX) : EX := fun ρ μ => (x ρ μ).bind fun v μ => match v with
  | .d (.str s) => okD ((tbl.lookup s).getD .non) μ
  | _ => .stuck
def eDIx (tbl : List (List Nat × Dat)) (x : EX) : EX := fun ρ μ => (x ρ μ).bind fun v μ => match v with
  | .d (.str s) => ofO (tbl.lookup s) μ
  | _ => .stuck
section
variable {Q : DV → List Cel → Prop} {X : Exn → List Cel → Prop} {ρ : Rho} {μ : List Cel} {x : EX} {tbl : List (List Nat × Dat)}
@[simp] theorem we_dget : WE (eDGet tbl x ρ μ) Q X = WE (x ρ μ) (fun v μ => ∃ s, v = .d (.str s) ∧ Q (.d ((tbl.lookup s).getD .non)) μ) X := by
  unfold eDGet
  rw [we_bind]
  congr 1
  funext v μ
  cases v with
  | c n => simp
  | f _ _ _ _ _ _ => simp
  | d v =>
    cases v with
    | str s => simp
    | _ => simp
@[simp] theorem we_dix : WE (eDIx tbl x ρ μ) Q X = WE (x ρ μ) (fun v μ => ∃ s d, v = .d (.str s) ∧ tbl.lookup s = some d ∧ Q (.d d) μ) X := by
  unfold eDIx
  rw [we_bind]
  congr 1
  funext v μ
  cases v with
  | c n => simp
  | f _ _ _ _ _ _ => simp
  | d v =>
    cases v with
    | str s => simp [we_ofO]
    | _ => simp
@[simp] theorem we_callS {g : Gn} {as : EXs} : WE (eCallS g as ρ μ) Q X = WE (as ρ μ) (fun xs μ => WE (g xs μ) Q X) X := we_bind
end
end DL
set_option Elab.async false
set_option linter.all false
set_option maxRecDepth 100000
set_option maxHeartbeats 4000000
namespace DL
open PySem PySem.Spec PyProof.Rows L2
end DL
set_option Elab.async false
set_option linter.all false
set_option maxRecDepth 100000
set_option maxHeartbeats 4000000
namespace L2
open PySem PySem.Spec PyProof.Rows
end L2
namespace DL
open PySem PySem.Spec PyProof.Rows L2
def mulT : G2 := fun x y μ => match x, y with
  | .d (.tup a), .d (.int b) => if -1000 ≤ b ∧ b ≤ 1000 ∧ a.length ≤ 1000 then okD (.tup (List.replicate b.toNat a).flatten) μ else .stuck
  | _, _ => .stuck
section
variable {Q : DV → List Cel → Prop} {X : Exn → List Cel → Prop} {μ : List Cel}
@[simp] theorem we_mulT {s : List Dat} {i : Int} : WE (mulT (.d (.tup s)) (.d (.int i)) μ) Q X = ((-1000 ≤ i ∧ i ≤ 1000 ∧ s.length ≤ 1000) ∧ Q (.d (.tup (List.replicate i.toNat s).flatten)) μ) := we_ite
end
end DL
set_option Elab.async false
set_option linter.all false
set_option maxRecDepth 100000
set_option maxHeartbeats 4000000
namespace DL
open PySem PySem.Spec PyProof.Rows L2
def r3T : Int → Bool
  | .ofNat n => Nat.ble n 100000
  | .negSucc _ => false
def cnt3 (i j c : Int) : Nat := if i < j then ((j - i - 1) / c + 1).toNat else 0
def rng3 : DV → DV → DV → Option (List Dat)
  | .d (.int i), .d (.int j), .d (.int c) => if (r3T i && (r3T j && r3T (c - 1))) = true then some ((List.range (cnt3 i j c)).map fun (k : Nat) => .int (i + (k : Int) * c)) else none
  | _, _, _ => none
def iRange3 (a b c : EX) : IX := fun ρ μ => (a ρ μ).bind fun v μ => (b ρ μ).bind fun w μ => (c ρ μ).bind fun z μ => ofS (rng3 v w z) μ
section
variable {Q : List Dat → List Cel → Prop} {X : Exn → List Cel → Prop} {ρ : Rho} {μ : List Cel} {a b c : EX}
@[simp] theorem we_iRange3 : WE (iRange3 a b c ρ μ) Q X = WE (a ρ μ) (fun v μ => WE (b ρ μ) (fun w μ => WE (c ρ μ) (fun z μ => ∃ ds, rng3 v w z = some ds ∧ Q ds μ) X) X) X := by
  unfold iRange3
  rw [we_bind]
  congr 1
  funext v μ
  rw [we_bind]
  congr 1
  funext w μ
  rw [we_bind]
  congr 1
  funext z μ
  simp
end
end DL
set_option Elab.async false
set_option linter.all false
set_option maxRecDepth 100000
set_option maxHeartbeats 4000000
namespace DL
open PySem PySem.Spec PyProof.Rows L2
def SaysRT (chk : Fr → Bool) (fn : List DefR) (ts : List TabR) (w : World) (K : Fr) : Prop := obsRT chk fn ts K = valRT fn ts w
section
variable {chk : Fr → Bool} {fn : List DefR} {ts : List TabR} {w : World} {K : Fr}
theorem SaysRT.all (c : SaysRT chk fn ts w K) : (chk K && ((fn.all fun d => d.ok K) && ts.all fun t => tabV K (t.1 K) t.2)) = true := congrArg (fun z : He.AlT => z.1.1) c
theorem SaysRT.test (c : SaysRT chk fn ts w K) : chk K = true := (He.ba c.all).1
theorem SaysRT.def_ (c : SaysRT chk fn ts w K) (i : Nat) {d : DefR} (h : fn[i]? = some d := by rfl) (hs : d.sup = none := by rfl) : ∃ fd, FunR K d fd := by
  have c2 := (He.ba (He.ba c.all).2).1
  have e : fn.map (fun d => d.obs K) = fn.map DefR.val := congrArg (fun z : He.AlT => z.1.2) c
  have e2 : (fn.map fun d => d.obs K)[i]? = (fn.map DefR.val)[i]? := by rw [e]
  rw [List.getElem?_map, List.getElem?_map, h] at e2
  exact DefR.fun_ (Option.some.inj e2) (List.all_eq_true.mp c2 d (List.mem_of_getElem? h)) hs
theorem SaysRT.tab (c : SaysRT chk fn ts w K) (i : Nat) {t : TabR} (h : ts[i]? = some t := by rfl) : TabF K w (t.1 K) t.2 := by
  have c2 := (He.ba (He.ba c.all).2).2
  have e : ts.map (fun t => He.dicW K (t.1 K)) = ts.map fun t => some (He.keysIn w.params (t.2.map fun q => sV q.1)) := congrArg (fun z : He.AlT => z.2) c
  have e2 : (ts.map fun t => He.dicW K (t.1 K))[i]? = (ts.map fun t => some (He.keysIn w.params (t.2.map fun q => sV q.1)))[i]? := by rw [e]
  rw [List.getElem?_map, List.getElem?_map, h] at e2
  exact tab_of (Option.some.inj e2) (List.all_eq_true.mp c2 t (List.mem_of_getElem? h))
end
/-- what never runs keeps every promise -/
theorem CD.stuck {P : Program} {w : World} {K : Fr} {mg : Str → Option Value} {base : Heap} {k : Nat} {f : Value} {n : Nat} {ks : List Str} : CD P w K mg base k f n ks (fun _ _ => .stuck) :=
  fun A outer s H us ws vs zs Q E F α μ ds hr e0 rv rz l1 l2 m r o => o.elim
end DL
set_option Elab.async false
set_option linter.all false
set_option maxRecDepth 100000
set_option maxHeartbeats 4000000
namespace DL
open PySem PySem.Spec PyProof.Rows L2
theorem obsRT_join {ca cb : Fr → Bool} {fa fb : List DefR} {ts : List TabR} {K : Fr} {w : World} (a : obsRT ca fa [] K = valRT fa [] w) (b : obsRT cb fb ts K = valRT fb ts w) : obsRT (fun K => ca K && cb K) (fa ++ fb) ts K = valRT (fa ++ fb) ts w := by
  simp only [obsRT, valRT, Prod.mk.injEq, Bool.and_eq_true] at a b ⊢
  obtain ⟨⟨⟨a1, a2, _⟩, a4⟩, _⟩ := a
  obtain ⟨⟨⟨b1, b2, b3⟩, b4⟩, b5⟩ := b
  refine ⟨⟨⟨⟨a1, b1⟩, ?_, b3⟩, ?_⟩, b5⟩
  · rw [List.all_append, a2, b2]
    rfl
  · rw [List.map_append, List.map_append, a4, b4]
/-- the run's two questions apart: the fences, the facts -/
def RunA (r : PySem.W.OpenRow) (q : Program) (M : Nat) (loose : List PySem.Str) (w : World) : Prop :=
  ∀ os : OsState, (HandSHeadRun.endF (HandSHeadRun.stepQ (HandSHeadRun.denQ HandSHeadRun.tabQ) r.prog w) M r.prog w os).map (fun s => (HandSHeadRun.looksF r.prog (PySem.W.boot_heap w.params) s.abs, HandSHeadRun.seenQ q loose (importedModules r.prog.main.body) (fun s => PySem.W.xlAt q [] s && PySem.W.recOk r.toRowW.records s) s.abs)) = some (true, PySem.W.openGood q loose)
def RunB (r : PySem.W.OpenRow) (H : PySem.W.Hook) (ob : PySem.W.SharedT → H.α) (M : Nat) (w : World) : Prop :=
  ∀ os : OsState, (HandSHeadRun.endF (HandSHeadRun.stepQ (HandSHeadRun.denQ HandSHeadRun.tabQ) r.prog w) M r.prog w os).map (fun s => ob s) = some (H.val w)
theorem runAB {r : PySem.W.OpenRow} {q : Program} {H : PySem.W.Hook} {ob : PySem.W.SharedT → H.α} {M : Nat} {loose : List PySem.Str} {w : World} (a : RunA r q M loose w) (b : RunB r H ob M w) : HandSHeadRun.RunEq r q H ob M loose w := by
  intro os
  have a := a os
  have b := b os
  revert a b
  generalize HandSHeadRun.endF _ _ _ _ _ = x
  intro a b
  cases x with
  | none => cases a
  | some s =>
    simp only [Option.map_some, Option.some.injEq, Prod.mk.injEq] at a b ⊢
    exact ⟨a.1, a.2, b⟩
end DL
set_option Elab.async false
set_option linter.all false
set_option maxRecDepth 100000
set_option maxHeartbeats 4000000
namespace DL
open PySem PySem.Spec PyProof.Rows L2
/-- the end of C(e, ..), the object's context told -/
theorem mkN_end {X : Cx} {pins : List (Addr × Obj)} {σ : St} {H1 H2 : Hp} {Q : XK} {hp hp2 h2 : Heap} {g1 g2 : Array GenState} {d1 d2 : Drawn} {t1 t2 : Nat} {os1 os2 : OsState} {a C d : Addr} {fs : List (Str × V)}
    (T : Raises X (.ref C)) (I1 : Inv X pins σ H1 ⟨hp, g1, d1, t1, os1⟩) (ha : hp.objs.size ≤ a) (k : ∀ b o, hp.get? b = some o → hp2.get? b = some o)
    (un : Un (frs X.stack) [] (upd H1 a (exo a C none)) H2 hp2 h2) (hok : HOk X.prog X.w H2 h2) (ho : os2 = os1) (hb : AllBare g2) (ea : H2 a = some (exo a C (some d)))
    (ed : H2 d = some (exd d fs)) (hd1 : H1 d = none) (q : Q (.ref C) (some d) (upd (del H2 a) d (.xd fs))) : L2N.MkP X pins σ Q (.ref a) ⟨h2, g2, d2, t2, os2⟩ :=
  let ⟨_, G, J, kG, ge, hoe, na⟩ := mk_end0 (d2 := d2) (t2 := t2) I1 ha k un hok ho hb ea ed hd1
  ⟨a, _, _, ⟨G, g2, d2, t2, os2⟩, _, .ref C, some d, rfl, J, kG, ge, hoe, ⟨rfl, rfl, fun v e => by cases e; rfl⟩, rfl, rfl, na, rfl, hb, T, q⟩
structure XcC (K : Fr) (C : Addr) (tl : List Value) (nid : String) : Prop where
  cls : PySem.W.excInitIn K C tl nid = true
  ov : PySem.W.excOver K C tl = true
  dic : PySem.W.hasDictIn K C = true
  sa : PySem.W.findIn K (.ref C) "__setattr__" = some (some (.builtin "object.__setattr__"))
  sub : PySem.W.subIn K (.ref C) (.type "BaseException") = some true
  ty : PySem.W.typeIn K (.ref C) = some (.type "type")
  kp : PySem.W.keepIn K (.ref C) = true
theorem xcB_ok {K : Fr} {C : Addr} {tl : List Value} {nid : String} (h : xcB K C tl nid = true) : XcC K C tl nid := by
  obtain ⟨h1, h⟩ := He.ba h
  obtain ⟨h2, h⟩ := He.ba h
  obtain ⟨h3, h⟩ := He.ba h
  obtain ⟨h4, h⟩ := He.ba h
  obtain ⟨h5, h⟩ := He.ba h
  obtain ⟨h6, h7⟩ := He.ba h
  exact ⟨h1, h2, h3, He.eqO_ok h4, of_decide_eq_true h5, of_decide_eq_true h6, h7⟩
section
open PySem.W PySem.HandSPX Builtin Builtin.ObjectAttr
variable {prog : Program} {w : World} {A : Around} {R : Result → Shared → Prop} {hp : Heap} {g : Array GenState} {d : Drawn} {t : Nat} {os : OsState}
theorem xc_osa {K : Fr} {B : String} {tl : List Value} {nm : Str} {tk : Tok} {v : Value} {x C : Addr} {fv : Array Value} (SF : StoreFacts B tl "object.__setattr__" "object")
    (kin : K.In hp) (gx : hp.get? x = some { cls := .ref C, data := .fields fv }) (ov : excOver K C tl = true) (hd : hasDictIn K C = true) (ht : takerIn K C nm = some none)
    (q : ∀ h' tk' dx, (∀ b o, b ≠ x → hp.get? b = some o → h'.get? b = some o) → hp.objs.size ≤ dx → dx ≠ x → h'.get? x = some { cls := .ref C, dict := some dx, data := .fields fv } →
      h'.Ns1 dx (fun y => if y = nm then some v else none) → R (.ok (.ret .none)) ⟨h', g, d, tk', os⟩) :
    codeAny (model prog w) A (.call (.builtin "object.__setattr__") ⟨[.ref x, .str nm tk, v], []⟩) R ⟨hp, g, d, t, os⟩ := by
  have apart : x ≠ hp.objs.size := Nat.ne_of_lt (Heap.lt_size gx)
  refine osa_openX (s := ⟨hp, g, d, t, os⟩) (od := none) SF kin ⟨gx, rfl, rfl, trivial⟩ ov ht fun b => ?_
  obtain ⟨cd, hc, hh⟩ := any_some hd
  have hcls : Looks (model prog w) hp (classData C) cd := looks_clsIn kin hc
  dsimp only
  obtain ⟨c1, c2, c3, c4, c5, c6, c7, c8, c9, c10, c11⟩ := cd
  dsimp only at hh
  subst hh
  unfold storeInOwnDict ownDictForStores
  repeat (first | with_reducible refine HandSPX.store_in_new ?_ ?_ | with_reducible refine wpAny_loadPart_at gx ?_ | with_reducible refine hcls.at ?_ | wp_step)
  · exact ⟨_, #[], _, (Heap.get?_update_ne _ _ _ _ (Ne.symm apart)).trans (Heap.get?_push_at rfl rfl), rfl, fun e he => absurd he (by simp), fun _ => rfl⟩
  · intro h' tk' hn' hs
    have gx2 : (hp.push { cls := .type "dict", data := .dict #[] }).get? x = some { cls := .ref C, data := .fields fv } := Heap.get?_push_of_some _ gx
    exact q h' tk' hp.objs.size (fun b o hb ho => (hs.2 b (Nat.ne_of_lt (Heap.lt_size ho))).trans ((Heap.get?_update_ne _ _ _ _ hb).trans (Heap.get?_push_of_some _ ho))) (Nat.le_refl _) (Ne.symm apart)
      ((hs.2 x apart).trans (Heap.get?_update_self _ gx2 rfl)) hn'
end
section
variable {X : Cx} {pins : List (Addr × Obj)} {σ : St} {H : Hp} {s : Shared}
theorem xst_new {B : String} {tl : List Value} {nid : String} {a C : Addr} {f : Str} {y : V} {u : Value} {Q : Unit → Shared → Prop} {E : Value → Shared → Prop} {A : Around} (T : XcC X.K C tl nid) (SF : StoreFacts B tl "object.__setattr__" "object") (I : Inv X pins σ H s) (e : H a = some (exo a C none))
    (ht : PySem.W.takerIn X.K C f = some none) (ry : RelV y u) (h : ∀ dx s', H dx = none → dx ≠ a → Inv X pins σ (upd (upd H dx (exd dx [(f, y)])) a (exo a C (some dx))) s' → Q () s') : wpAny (model X.prog X.w) A (setAttr (.ref a) f u) Q E s := by
  obtain ⟨t1, ho⟩ := exo_at I.hok e
  obtain ⟨hp, g, d, t, os⟩ := s
  refine PySem.W.set_plain I.kIn (ox := { cls := .ref C, dict := none, data := .fields #[.ref t1, .none, .none, .none, .bool false, .none] }) (od := none) ⟨ho, rfl, rfl, trivial⟩ T.sa ?_
  refine xc_osa SF I.kIn ho T.ov T.dic ht fun h' tk' dx k dn dne hx hn => ?_
  have fr : H dx = none := I.hok.fresh dn
  have nd : ∀ {b : Addr} {o : Obj}, hp.get? b = some o → b ≠ dx := fun {b o} z => Nat.ne_of_lt (Nat.lt_of_lt_of_le (Heap.lt_size z) dn)
  have na : ∀ {b : Addr}, H b = none → b ≠ a := fun {b} n z => by rw [z, e] at n; cases n
  have other : ∀ {b : Addr} {o : HO}, H b = some o → o ≠ exo a C none → upd (upd H dx (exd dx [(f, y)])) a (exo a C (some dx)) b = some o := fun {b o} z n => by
    rw [upd_ne (fun z2 => n (by rw [z2, e] at z; cases z; rfl)), upd_ne (ne_of_none z fr)]
    exact z
  have un : Un X.fs [] H (upd (upd H dx (exd dx [(f, y)])) a (exo a C (some dx))) hp h' := {
    keep := fun b o z n _ _ => k b o (na n) z
    slot := fun b o z n _ _ => ⟨o.slots, k b o (na n) z⟩
    free := fun b o z n _ => by rw [upd_ne (na n), upd_ne (nd z)]; exact n
    there := fun b o z _ => by
      by_cases hb : b = a
      · exact ⟨_, by rw [hb]; exact hx⟩
      · exact ⟨o, k b o hb z⟩
    tups := fun b xs z => other z exo_tup.symm
    frzs := fun b o v z => other z exo_frz.symm
    tbls := fun b ps z => ⟨#[], by rw [other z exo_tbl.symm]; simp⟩ }
  refine h dx _ fr dne (I.un (t' := tk') un fun b o z => ?_)
  by_cases hb : b = a
  · subst hb
    rw [upd_same] at z
    cases z
    exact exo_ok hx
  by_cases hd : b = dx
  · subst hd
    rw [upd_ne hb, upd_same] at z
    cases z
    exact exd_ok hn (relO_put (fs := []) ry fun g => True.intro)
  rw [upd_ne hb, upd_ne hd] at z
  refine (I.hok b o z).stay (fun c v hc z2 => k c v ?_ z2) (fun c hc => other hc exo_own.symm) fun c xs hc => other hc exo_tup.symm
  rcases hc with hc | hc
  · rw [hc]; exact hb
  · exact at_ne e hc exo_own
end
/-- what the __init__ of such a class does -/
def spX (C : Addr) (f : Str) : Sp := fun vs H Q _ => ∃ a v, vs = [.ref a, v] ∧ H a = some (exo a C none) ∧ ∀ dx, H dx = none → dx ≠ a → Q .non (upd (upd H dx (exd dx [(f, v)])) a (exo a C (some dx)))
section
variable {P : Program} {w : World} {K : Fr} {mg : Str → Option Value} {base : Heap} {C fI : Addr} {tl : List Value} {nid B : String} {f sf : Str} {name qual : Str} {params : Arguments} {scope : Scope} {fd : FuncData} {q1 q2 q3 q4 : Pos}
theorem x_init (T : XcC K C tl nid) (SF : StoreFacts B tl "object.__setattr__" "object") (ht : PySem.W.takerIn K C f = some none) (F : FunD K name qual params [.Assign [.Attribute (.Name sf q1) f q2] (.Name f q3) q4] scope [] [] fI fd) (S : FnScope [sf, f] [sf, f] scope)
    (hd1 : (sf == ("__debug__" : Str)) = false) (hc1 : (sf == ("__classdict__" : Str)) = false) (hd2 : (f == ("__debug__" : Str)) = false) (hc2 : (f == ("__classdict__" : Str)) = false) : FnOk P w K mg base (L2N.CX P w) 1 fI fd [sf, f] (spX C f) := by
  obtain ⟨oc, od, dV, kV, doc, pm, an, cdv, ct, osl, rfl, lk, hcd, _, _⟩ := F.ex
  refine fn_of lk hcd S (fun vs H Q E h => ?_) fun A outer s H vs Q E hr h => ?_
  · obtain ⟨a, v, rfl, _⟩ := h; rfl
  obtain ⟨a, v, rfl, ea, q⟩ := h
  have v1 : Vis scope sf := (S.par sf (by simp)).elim .inl fun z => .inr (.inl z)
  have v2 : Vis scope f := (S.par f (by simp)).elim .inl fun z => .inr (.inl z)
  refine ⟨fun D σ H' => σ = L2.start [sf, f] [V.ref a, v] ∧ H' = H ∧ ∀ dx, H dx = none → dx ≠ a → D.nx σ (upd (upd H dx (exd dx [(f, v)])) a (exo a C (some dx))), pss_one ⟨fun pins s1 σ1 H1 D I hh => ?_⟩, rfl, rfl, q⟩
  obtain ⟨rfl, rfl, hq⟩ := hh
  refine plainObj_wpAny_Assign_Attribute (thn ((pe_var (pos := q3) (i := 1) (x := f) rfl v2 hd2 hc2).run pins s1 _ _ (fun y H2 => y = v ∧ H2 = H1) I ⟨v, rfl, rfl, rfl⟩) fun u s2 ⟨y, H2, I2, r2, e2⟩ => ?_) rfl
  obtain ⟨rfl, rfl⟩ := e2
  refine thn ((pe_var (pos := q1) (i := 0) (x := sf) rfl v1 hd1 hc1).run pins s2 _ _ (fun y H3 => y = .ref a ∧ H3 = H2) I2 ⟨.ref a, rfl, rfl, rfl⟩) fun u3 s3 ⟨y3, H3, I3, r3, e3⟩ => ?_
  obtain ⟨rfl, rfl⟩ := e3
  obtain rfl : u3 = Value.ref a := r3
  exact xst_new T SF I3 ea ht r2 fun dx s' n ne J => ⟨_, _, J, hq dx n ne⟩
end
end DL
set_option Elab.async false
set_option linter.all false
set_option maxRecDepth 100000
set_option maxHeartbeats 4000000
namespace DL
open PySem PySem.Spec PyProof.Rows L2
theorem xBase (b : Nat) : ∃ B iid, ExcBaseFacts B (xNew b) iid (xTl b) ∧ StoreFacts B (xTl b) "object.__setattr__" "object" := by
  match b with
  | 0 => exact ⟨_, _, F.excBase_ValueError, F.store_ValueError⟩
  | 1 => exact ⟨_, _, F.excBase_LookupError, F.store_LookupError⟩
  | n + 2 => exact ⟨_, _, F.excBase_ArithmeticError, F.store_ArithmeticError⟩
/-- the facts of such a class: its __init__ at fI stores into f -/
structure XCls (K : Fr) (b : Nat) (C : Addr) (f : Str) (fI : Addr) : Prop where
  x : XcC K C (xTl b) (xNew b)
  tk : PySem.W.takerIn K C f = some none
  ini : PySem.W.findIn K (.ref C) "__init__" = some (some (.ref fI))
  fn : PySem.W.typeIn K (.ref fI) = some (.type "function")
theorem xclsB_ok {K : Fr} {b : Nat} {C : Addr} {f : Str} {fI : Addr} (h : xclsB K b C f fI = true) : XCls K b C f fI := by
  obtain ⟨h1, h⟩ := He.ba h
  obtain ⟨h2, h⟩ := He.ba h
  obtain ⟨h3, h4⟩ := He.ba h
  exact ⟨xcB_ok h1, of_decide_eq_true h2, He.eqO_ok h3, of_decide_eq_true h4⟩
/-- what is known of an exception class whose __init__ stores its parameter -/
def XAll (K : Fr) (mg : Str → Option Value) (b c f : Nat) : Prop :=
  ∃ (fI : Addr) (fd : FuncData) (sf name qual : Str) (params : Arguments) (scope : Scope) (q1 q2 q3 q4 : Pos), XCls K b (He.ga K (clsNm c)) (fldNm f) fI ∧ FunD K name qual params [.Assign [.Attribute (.Name sf q1) (fldNm f) q2] (.Name (fldNm f) q3) q4] scope [] [] fI fd ∧
    FnScope [sf, fldNm f] [sf, fldNm f] scope ∧ Binds K fd [sf, fldNm f] [] ∧ mg (clsNm c) = some (.ref (He.ga K (clsNm c))) ∧ (clsNm c == ("__debug__" : Str)) = false ∧ (sf == ("__debug__" : Str)) = false ∧ (sf == ("__classdict__" : Str)) = false ∧ (fldNm f == ("__debug__" : Str)) = false ∧ (fldNm f == ("__classdict__" : Str)) = false
end DL
set_option Elab.async false
set_option linter.all false
set_option maxRecDepth 100000
set_option maxHeartbeats 4000000
namespace DL
open PySem PySem.Spec PyProof.Rows L2
end DL
set_option Elab.async false
set_option linter.all false
set_option maxRecDepth 100000
set_option maxHeartbeats 4000000
namespace DL
open PySem PySem.Spec PyProof.Rows L2
abbrev cool (A : Around) : Around := { A with handled := none }
structure RoomH (k : Nat) (A : Around) : Prop where
  dp : A.depth + 3 * k + 5 < recursionLimit
  un : A.units + 16 * k + 200 < cLine
  g : A.guards = some []
theorem RoomH.mono {j k : Nat} {A : Around} (r : RoomH k A) (h : j ≤ k) : RoomH j A := ⟨by have := r.dp; omega, by have := r.un; omega, r.g⟩
theorem RoomH.un0 {k : Nat} {A : Around} (r : RoomH k A) : RoomG k (cool A) := ⟨⟨rfl, r.dp, r.un⟩, r.g⟩
theorem RoomH.deeper {k : Nat} {A : Around} (r : RoomH (k + 1) A) (env : Env) : RoomH k (A.deeper env) := by
  have z := (r.un0).deeper env
  exact ⟨z.r.dp, z.r.un, z.g⟩
abbrev cxH (P : Program) (w : World) (K : Fr) (mg : Str → Option Value) (base : Heap) (N : List Str) (qual : Str) (scope : Scope) (f : Addr) (cd : Value) (A : Around) (outer : List Env) (s : Shared) (H : Hp) (E : XK) : Cx := { cxB P w K mg base N qual scope f cd A outer s H E with calm := false }
section
variable {P : Program} {w : World} {K : Fr} {mg : Str → Option Value} {base : Heap} {N : List Str} {qual : Str} {scope : Scope} {f : Addr} {cd : Value} {A : Around} {outer : List Env} {s : Shared} {H : Hp} {E : XK}
theorem env0_mark (e0 : Env0 P w K mg base A outer s H) : Env0 P w K mg base (cool A) outer s H := ⟨e0.frames, e0.mod, e0.bs, e0.bsz, e0.funs, e0.frf, e0.hok, e0.bare⟩
end
/-- a context that differs in what is handled alone -/
theorem inv_hot {P : Program} {w : World} {K : Fr} {mg : Str → Option Value} {base : Heap} {N : List Str} {qual : Str} {scope : Scope} {f : Addr} {cd : Value} {A : Around} {outer : List Env} {s : Shared} {H : Hp} {E : XK} {σ : St} {H1 : Hp} {s1 : Shared} (hf : A.frames = some outer)
    (I : Inv (cxB P w K mg base N qual scope f cd (cool A) outer s H E) [] σ H1 s1) : Inv (cxH P w K mg base N qual scope f cd A outer s H E) [] σ H1 s1 :=
  ⟨⟨I.ok.mod, I.ok.kind, I.ok.glob, I.ok.blt, I.ok.above, I.ok.inj, I.ok.has, I.ok.cab, fun z => (Bool.noConfusion (show false = true from z)), Around.frames_deeper hf, I.ok.stk, I.ok.exf, I.ok.bs, I.ok.bsz, I.ok.noex, I.ok.exfs, I.ok.funs, I.ok.frf⟩,
    I.os, I.bare, I.base, I.loc, I.cell, I.free, I.freeC, I.pin, I.hok, I.len⟩
def BodyOkH (P : Program) (w : World) (K : Fr) (mg : Str → Option Value) (base : Heap) (k : Nat) (N : List Str) (qual : Str) (scope : Scope) (f : Addr) (body : List Stmt) (b : SX) : Prop :=
  ∀ (cd : Value) (A : Around) (outer : List Env) (s : Shared) (H : Hp) (E : XK), RoomH k (cxH P w K mg base N qual scope f cd A outer s H E).A → DSs (cxH P w K mg base N qual scope f cd A outer s H E) (WB E) body b
def CDH (P : Program) (w : World) (K : Fr) (mg : Str → Option Value) (base : Heap) (k : Nat) (f : Value) (n : Nat) (g : Gn) : Prop :=
  ∀ (A : Around) (outer : List Env) (s : Shared) (H : Hp) (us : List Value) (vs : List V) (Q : VK) (E : XK) (F : Hp) (α : List Addr) (μ : List Cel) (ds : List DV), RoomH k A → Env0 P w K mg base A outer s H → Vals vs us → vs.length = n →
    Mem K F H α μ → RepVs K F α ds vs → OutOk (RV K) K F α (g ds μ) Q E → codeAny (model P w) A (.call f ⟨us, []⟩) (CR (L2N.CX P w) outer P w H s Q E) s
theorem CDH.fn (frz : Bool) {P : Program} {w : World} {K : Fr} {mg : Str → Option Value} {base : Heap} {k : Nat} {ps : List Str} {f : Addr} {fd : FuncData} {N : List Str} {name qual : Str} {params : Arguments} {body : List Stmt} {scope : Scope} {dvs : List V} {kws : List (Str × V)} {b : SX} (F : FunD K name qual params body scope dvs kws f fd) (S : FnScope N ps scope)
    (hbody : BodyOkH P w K mg base k N qual scope f body b) (hb : Binds K fd ps []) : CDH P w K mg base (k + 1) (.ref f) ps.length (fnG frz N.length b) := by
  intro A outer s H us vs Q E F0 α μ ds hr e0 rv l1 m r o
  obtain ⟨oc, od, dV, kV, doc, pm, an, cdv, ct, osl, rfl, lk, hcd, _, _⟩ := F.ex
  have KX : K.In s.heap := e0.mod.kin.keeps fun b o e => (e0.bs b o e).1
  have lim : s.heap.NoLimit := e0.mod.nolimit.keeps fun b o e => (e0.bs b o e).1
  have hkind : ∀ y ∈ ps.zip us, scope.names.lookup y.1 = some .local ∨ (scope.names.lookup y.1 = some .cell ∧ ((cellsFrom (s.heap.objs.size + 1) scope.names []).lookup y.1).isSome = true) := fun y hy =>
    (S.par y.1 (List.of_mem_zip hy).1).imp id fun q => ⟨q, PySem.W.cellsFrom_some _ _ _ (.inl q)⟩
  have bt := hb s us KX (by rw [List.append_nil, ← rv.length]; exact l1)
  rw [List.append_nil] at bt
  refine codeAny_call_function (show A.depth < recursionLimit by have := hr.dp; omega) (KX _ _ lk) rfl S.co S.gen rfl (PySem.W.codeRec_of KX hcd) (bt _ _ _ _ ?_)
  refine wpAny_newFunctionEnv_cells S.kind hkind fun env he s1 x => ?_
  subst he
  refine ⟨lim.keeps x.toInCall.keep, codeAny_func ?_⟩
  have I := inv_hot (E := E) e0.frames (inv_start (CX := L2N.CX P w) (E := E) S (A := cool A) rfl (env0_mark e0) l1 rv x)
  refine wpAny_mono ((hbody cdv A outer s H E (hr.deeper _)).pss.run [] s1 _ H { nx := fun _ H' => Q .non H', rt := Q } I ⟨F0, α, _, μ, m, slots0 r, fin_ok (frz := frz) m o⟩) (fun fl s' hs => ?_) fun e s' hs => hs
  cases fl with
  | brk => obtain ⟨_, _, _, q⟩ := hs; exact False.elim q
  | cont => obtain ⟨_, _, _, q⟩ := hs; exact False.elim q
  | next => obtain ⟨σ', H', J, q⟩ := hs; exact ⟨V.non, H', J.os, J.bare, J.base, J.hok, rfl, q⟩
  | ret u => obtain ⟨v, σ', H', J, rv', q⟩ := hs; exact ⟨v, H', J.os, J.bare, J.base, J.hok, rv', q⟩
theorem CDH.mono {P : Program} {w : World} {K : Fr} {mg : Str → Option Value} {base : Heap} {j k : Nat} {f : Value} {n : Nat} {g : Gn} (c : CDH P w K mg base j f n g) (h : j ≤ k) : CDH P w K mg base k f n g :=
  fun A outer s H us vs Q E F α μ ds hr => c A outer s H us vs Q E F α μ ds (hr.mono h)
theorem CDH.x {X : Cx} {W : WX} {k n : Nat} {f : Value} {g : Gn} (C : CDH X.prog X.w X.K X.mg X.base k f n g) (hr : RoomH k X.A) (tk : L2N.Takes X W) : CallX X W f n [] g := by
  intro pins σ H s us ws vs zs Q F α μ ds I rv rz l1 l2 m r o
  have e1 : zs = [] := List.eq_nil_of_length_eq_zero l2
  subst e1
  have e2 : ws = [] := by cases rz; rfl
  subst e2
  rw [List.append_nil] at r
  refine wpAny_call (codeAny_mono (C X.A X.stack s H us vs Q (fun cls dx H' => W cls dx σ H') F α μ ds hr I.env0 rv l1 m r o) fun rs s' hq => ?_)
  have z := cr_end tk I hq
  cases rs with
  | error e => exact z
  | ok fl =>
    cases fl with
    | ret u => exact z
    | next => exact False.elim z
    | brk => exact False.elim z
    | cont => exact False.elim z
end DL
set_option Elab.async false
set_option linter.all false
set_option maxRecDepth 100000
set_option maxHeartbeats 4000000
namespace DL
open PySem PySem.Spec PyProof.Rows L2
abbrev WF : WX := fun _ _ _ _ => False
def SuiOk (P : Program) (w : World) (K : Fr) (mg : Str → Option Value) (base : Heap) (k : Nat) (N : List Str) (qual : Str) (scope : Scope) (f : Addr) (body : List Stmt) (b : SX) : Prop :=
  ∀ (cd : Value) (A : Around) (outer : List Env) (s : Shared) (H : Hp) (E : XK) (a : Addr) (pn : List (Addr × Obj)), RoomH k ((cxB P w K mg base N qual scope f cd A outer s H E).suite a pn).A → DSs ((cxB P w K mg base N qual scope f cd A outer s H E).suite a pn) WF body b
theorem SuiOk.mono {P : Program} {w : World} {K : Fr} {mg : Str → Option Value} {base : Heap} {j k : Nat} {N : List Str} {qual : Str} {scope : Scope} {f : Addr} {body : List Stmt} {b : SX} (h : SuiOk P w K mg base j N qual scope f body b) (hjk : j ≤ k) : SuiOk P w K mg base k N qual scope f body b :=
  fun cd A outer s H E a pn hr => h cd A outer s H E a pn (hr.mono hjk)
theorem BodyOk.mono {P : Program} {w : World} {K : Fr} {mg : Str → Option Value} {base : Heap} {j k : Nat} {N : List Str} {qual : Str} {scope : Scope} {f : Addr} {body : List Stmt} {b : SX} (h : BodyOk P w K mg base j N qual scope f body b) (hjk : j ≤ k) : BodyOk P w K mg base k N qual scope f body b :=
  fun cd A outer s H E hr => h cd A outer s H E (hr.mono hjk)
theorem RoomH.units {k : Nat} {A : Around} (r : RoomH k A) : A.units + 64 < cLine := by have := r.un; omega
end DL
set_option Elab.async false
set_option linter.all false
set_option maxRecDepth 100000
set_option maxHeartbeats 4000000
namespace DL
open PySem PySem.Spec PyProof.Rows L2
theorem emptyT_ok {o : Option Obj} (h : emptyT o = true) : o = some tabO := by
  unfold emptyT at h
  split at h
  · obtain ⟨h1, h2⟩ := He.ba h
    rename_i vs sl
    rw [Array.eq_empty_of_size_eq_zero (of_decide_eq_true h1), Array.eq_empty_of_size_eq_zero (of_decide_eq_true h2)]
  · cases h
/-- what is known of the tables of the defs ls -/
structure LamT (K : Fr) (h : Heap) (ls : List Str) : Prop where
  nd : (ls.map (tabA K)).Nodup
  no : ∀ f ∈ ls, K.lookup (tabA K f) = none
  hd : ∀ f ∈ ls, PySem.W.codeHdIn K (cdA K f) (tabA K f) = true
  at_ : ∀ f ∈ ls, h.get? (tabA K f) = some tabO
theorem lamB_ok {K : Fr} {h : Heap} {ls : List Str} (e : lamB K h.get? ls = true) : LamT K h ls := by
  obtain ⟨h1, h2⟩ := He.ba e
  have h3 := fun f hf => He.ba (List.all_eq_true.mp h2 f hf)
  exact ⟨of_decide_eq_true h1, fun f hf => Option.isNone_iff_eq_none.mp (h3 f hf).1, fun f hf => (He.ba (h3 f hf).2).1, fun f hf => emptyT_ok (He.ba (h3 f hf).2).2⟩
def hookL (as : (Addr → Option Obj) → List Nat) (chk : Fr → Bool) (fn : List DefR) (ts : List TabR) (ls : List Str) : PySem.W.Hook where
  α := He.AlT × Bool
  obs := fun s => obsL as chk fn ts ls s.heap.get?
  val := fun w => (valRT fn ts w, true)
  says := fun w h => ∃ K : Fr, K.In h ∧ SaysRT chk fn ts w K ∧ LamT K h ls
  of := fun _ _ e => ⟨_, He.frG_in, congrArg (fun z : He.AlT × Bool => z.1) e, lamB_ok (congrArg (fun z : He.AlT × Bool => z.2) e)⟩
  keeps := fun _ _ _ ⟨K, hK, c, t⟩ k => ⟨K, PySem.W.Frag.In.keeps hK k, c, ⟨t.nd, t.no, t.hd, fun f hf => k _ _ (t.at_ f hf)⟩⟩
theorem obsL_eq {as : (Addr → Option Obj) → List Nat} {chk : Fr → Bool} {fn : List DefR} {ts : List TabR} {ls : List Str} {g : Addr → Option Obj} {s : Shared} (h : ∀ a, g a = s.heap.get? a) : obsL as chk fn ts ls g = (hookL as chk fn ts ls).obs s := by
  have e : g = s.heap.get? := funext h
  rw [e] <;> rfl
/-- the memory at the law's call: a cell for each table -/
def mu0 (ls : List Str) : List Cel := ls.map .tab
theorem law_runL {P : Program} {w : World} {K : Fr} {mg mb : Str → Option Value} {k : Nat} {fa a : Addr} {g : Gn} {ls : List Str} {s₁ : Shared} {vs : List Value} {ns : List Int} (KX : K.In s₁.heap) (T : LamT K s₁.heap ls) (hns : s₁.heap.Ns mainGlobals mg) (hb : s₁.heap.Ns builtinsNs mb)
    (hbb : ∀ x : Str, x ≠ "__name__" → mb x = bootBuiltins x) (hlim : s₁.heap.NoLimit) (hg : s₁.gens = #[])
    (hbm : ∃ (bm : Addr) (ob : Obj), mg "__builtins__" = some (.ref bm) ∧ bm ≠ builtinsNs ∧ s₁.heap.get? bm = some ob ∧ ob.cls = .type "module" ∧ ob.dict = some builtinsNs ∧ ob.data = .plain)
    (ha : s₁.heap.get? a = some { cls := .type "list", data := .seq vs.toArray }) (hi : IntsAre vs ns) (hl : ns.length ≤ LIM) (hr : Room k callerA)
    (C : ∀ base : Heap, K.In base → base.Ns mainGlobals mg → (∀ f ∈ ls, LamX.TabB base mg (cdA K f) (tabA K f)) → CD P w K mg base k (.ref fa) 1 [] g) (hsem : ∃ μ, g [.d (.fl (ns.map .int))] (mu0 ls) = .ok (.d (.bl true)) μ) :
    codeAny (model P w) callerA (.call (.ref fa) ⟨[.ref a], []⟩) (fun r s' => r = .ok (.ret (.bool true)) ∧ OldK s₁.heap s'.heap ∧ s'.os = s₁.os ∧ AllBare s'.gens) s₁ := by
  have rv := vals_ints hi
  have lenV := hi.length
  have hz : ns.length ≤ sizeLine := lim_line hl
  obtain ⟨μe, he⟩ := hsem
  obtain ⟨TA, hTA⟩ : ∃ TA : List Addr, TA = ls.map (tabA K) := ⟨_, rfl⟩
  have inT : ∀ b, b ∈ TA → ∃ f ∈ ls, tabA K f = b := fun b hb => by
    rw [hTA] at hb
    exact List.mem_map.mp hb
  have tIn : ∀ f ∈ ls, tabA K f ∈ TA := fun f hf => by
    rw [hTA]
    exact List.mem_map.mpr ⟨f, hf, rfl⟩
  have isT : ∀ b, b ∈ TA → s₁.heap.get? b = some tabO := fun b hb => by
    obtain ⟨f, hf, e⟩ := inT b hb
    rw [← e]
    exact T.at_ f hf
  have aT : a ∉ TA := fun z => by
    have q := isT a z
    rw [ha] at q
    have z' := congrArg Obj.data (Option.some.inj q)
    cases z'
  have core : ∀ H : Hp, (∀ b ∈ TA, H b = some (.tbl #[])) → (∀ b, H b = none ∨ b ∈ TA ∨ ∃ o xs, H b = some (.frz o (.lst xs))) → SqL K H a (ns.map V.int) → HOk P w H s₁.heap → (∀ b, H b ≠ none → b = a ∨ b ∈ TA) → (H a ≠ none → K.lookup a = none) →
      (∀ b, b ∈ TA → (fun b => if b ∈ TA then none else H b) b = none) → SqL K (fun b => if b ∈ TA then none else H b) a (ns.map V.int) →
      codeAny (model P w) callerA (.call (.ref fa) ⟨[.ref a], []⟩) (fun r s' => r = .ok (.ret (.bool true)) ∧ OldK s₁.heap s'.heap ∧ s'.os = s₁.os ∧ AllBare s'.gens) s₁ := by
    intro H hH hO hS hok hA hK hF hSF
    have free : ∀ {b : Addr} {o : Obj}, s₁.heap.get? b = some o → (∀ vs n, o.data ≠ .seq vs n) → o.data ≠ .fields #[] → H b = none := fun {b o} e h1 h2 => by
      cases q : H b with
      | none => rfl
      | some u =>
        rcases hA b (by rw [q]; simp) with e' | e'
        · rw [e', ha] at e
          cases e
          exact (h1 _ _ rfl).elim
        · rw [isT b e'] at e
          cases e
          exact (h2 rfl).elim
    have dictFree : ∀ {b : Addr} {o : Obj} {es : Array DictEntry} {ep : Nat}, s₁.heap.get? b = some o → o.data = .dict es ep → H b = none := fun {b o es ep} e d =>
      free e (fun vs n z => by rw [d] at z; cases z) fun z => by rw [d] at z; cases z
    have nsK : ∀ {b : Addr} {m : Str → Option Value}, s₁.heap.Ns b m → (hidT s₁.heap H).Ns b m := fun {b m} ⟨o, es, ep, e, d, r⟩ => ⟨o, es, ep, hidT_get e (dictFree e d), d, r⟩
    have hKb : K.In (hidT s₁.heap H) := fun b o e => hidT_get (KX b o e) (by
      cases q : H b with
      | none => rfl
      | some u =>
        rcases hA b (by rw [q]; simp) with e' | e'
        · subst e'
          rw [hK (by rw [q]; simp)] at e
          cases e
        · obtain ⟨f, hf, ef⟩ := inT b e'
          rw [← ef, T.no f hf] at e
          cases e)
    have hM : Mod K mg (hidT s₁.heap H) := ⟨hKb, nsK hns, ⟨mb, nsK hb, hbb⟩, let ⟨mc, h1, h2⟩ := hlim; ⟨mc, nsK h1, h2⟩⟩
    have TB : ∀ f ∈ ls, LamX.TabB (hidT s₁.heap H) mg (cdA K f) (tabA K f) := fun f hf => by
      have hTp := T.at_ f hf
      refine ⟨PySem.W.codeHd_of_K hKb (T.hd f hf), ?_, fun z => ?_⟩
      · obtain ⟨bm, ob, b1, b2, b3, b4, b5, b6⟩ := hbm
        have nG : bm ≠ mainGlobals := fun q => by
          obtain ⟨o, es, ep, e, hd, _⟩ := hns
          rw [q, e] at b3
          cases b3
          rw [hd] at b6
          cases b6
        have nP : bm ≠ tabA K f := fun q => by
          rw [q, hTp] at b3
          cases b3
          cases b6
        exact ⟨bm, ob, b1, b2, nG, nP, hidT_get b3 (free b3 (fun vs n z => by rw [b6] at z; cases z) fun z => by rw [b6] at z; cases z), b4, b5, b6⟩
      · obtain ⟨o, es, ep, e, hd, _⟩ := hns
        rw [z, hTp] at e
        cases e
        cases hd
    have e0 : Env0 P w K mg (hidT s₁.heap H) callerA [] s₁ H := ⟨rfl, hM, fun b o e => of_hidT e, Nat.le_of_eq (hidT_size _ _), trivial, fun b hb => absurd (show b ∈ ([] : List Addr) from hb) (by simp), hok, .of_eq hg⟩
    have m0 : Mem K (fun b => if b ∈ TA then none else H b) H TA (mu0 ls) := by
      refine ⟨fun b o e => ?_, by rw [hTA]; simp [mu0], by rw [hTA]; exact T.nd, fun n c b h1 h2 => ?_⟩
      · have e : (if b ∈ TA then none else H b) = some o := e
        by_cases hb : b ∈ TA
        · rw [if_pos hb] at e; cases e
        · rw [if_neg hb] at e; exact e
      · rw [hTA, List.getElem?_map] at h2
        unfold mu0 at h1
        rw [List.getElem?_map] at h1
        cases q : ls[n]? with
        | none => rw [q] at h1; cases h1
        | some f =>
          rw [q] at h1 h2
          cases h1
          cases h2
          have hf := List.mem_of_getElem? q
          exact ⟨hF _ (tIn f hf), rfl, #[], hH _ (tIn f hf), True.intro, fun pos cv hc => by
            have z : codeAmong pos [] = some cv := hc
            simp [codeAmong] at z⟩
    have rr : Reps K (fun b => if b ∈ TA then none else H b) (ns.map Dat.int) (ns.map V.int) := reps_ints ns
    refine codeAny_mono (C _ hKb (nsK hns) TB callerA [] s₁ H [.ref a] [] [.ref a] [] (fun v _ => v = .bl true) E0 _ TA _ [.d (.fl (ns.map .int))] ⟨hr, rfl⟩ e0 (.cons rfl .nil) .nil rfl rfl m0 ⟨_, _, rfl, ⟨by simpa using hl, a, _, rfl, hSF, rr⟩, rfl⟩ (by
      rw [he]
      exact fun u F' α' H' _ _ r => r)) fun r s' h => ?_
    cases r with
    | error e =>
      obtain ⟨_, _, _, _, _, _, _, _, _, _, _, _, z⟩ := (show L2N.CX P w _ _ _ E0 e s' from h)
      exact z.elim
    | ok fl =>
      cases fl with
      | next => exact False.elim h
      | brk => exact False.elim h
      | cont => exact False.elim h
      | ret u =>
        obtain ⟨v, H', os, bare, un, hok', r', q⟩ := h
        have q' : v = .bl true := q
        subst q'
        obtain rfl : u = Value.bool true := r'
        have key : ∀ b o, b ∉ TA → s₁.heap.get? b = some o → s'.heap.get? b = some o := fun b o nb e => by
          cases q : H b with
          | none => exact un.keep b o e q (by intro z; exact absurd (show b ∈ ([] : List Addr) from z) (by simp)) (by simp)
          | some u =>
            rcases hO b with z | z | ⟨ob, xs, z⟩
            · rw [q] at z; cases z
            · exact absurd z nb
            · have z2 := un.frzs b ob _ z
              obtain ⟨e1, _⟩ := hok b _ z
              obtain ⟨e2, _⟩ := hok' b _ z2
              rw [e] at e1; cases e1
              exact e2
        have grown : ∀ b ∈ TA, ∃ more : Array Value, s'.heap.get? b = some { cls := .none, data := .fields more } := fun b hb => by
          obtain ⟨more, z⟩ := un.tbls b #[] (hH b hb)
          exact ⟨_, hok' b _ z⟩
        refine ⟨rfl, ⟨fun b o e => ?_, fun b o e => ?_⟩, os, bare⟩
        · by_cases hb : b ∈ TA
          · obtain ⟨f, hf, ef⟩ := inT b hb
            obtain ⟨more, hm⟩ := grown b hb
            rw [isT b hb] at e
            cases e
            have cd := PySem.W.codeHd_of_K KX (T.hd f hf)
            rw [ef] at cd
            exact .inr (.inl ⟨(cd.tab (isT b hb)).isCodeTable, rfl, #[], more, rfl, by rw [Array.empty_append]; exact hm⟩)
          · exact .inl (key b o hb e)
        · by_cases hb : b ∈ TA
          · obtain ⟨more, hm⟩ := grown b hb
            exact ⟨_, hm⟩
          · exact ⟨o, key b o hb e⟩
  have tb_ok : ∀ b ∈ TA, ∀ H : Hp, ObjOk P w H s₁.heap b (.tbl #[]) := fun b hb H => isT b hb
  cases hk : K.lookup a with
  | some o =>
    have e := KX a o hk
    rw [ha] at e
    cases e
    have inK : ∀ H : Hp, SqL K H a (ns.map V.int) := fun H => .inr ⟨_, vs.toArray, _, hk, rfl, rfl, rfl, by rw [List.size_toArray, lenV]; exact hz, by simpa using rv⟩
    refine core (fun b => if b ∈ TA then some (.tbl #[]) else none) (fun b hb => if_pos hb) (fun b => ?_) (inK _) (fun b u z => ?_) (fun b z => ?_) (fun z => absurd (show (if a ∈ TA then some (HO.tbl #[]) else none) = none from if_neg aT) z) (fun b hb => if_pos hb) (inK _)
    · by_cases hb : b ∈ TA
      · exact .inr (.inl hb)
      · exact .inl (if_neg hb)
    · by_cases hb : b ∈ TA
      · have z' := (if_pos hb).symm.trans z
        cases z'
        exact tb_ok b hb _
      · have z' := (if_neg hb).symm.trans z
        cases z'
    · by_cases hb : b ∈ TA
      · exact .inr hb
      · exact absurd (if_neg hb) z
  | none =>
    refine core (fun b => if b = a then some (.frz { cls := .type "list", data := .seq vs.toArray } (.lst (ns.map V.int))) else if b ∈ TA then some (.tbl #[]) else none) (fun b hb => (if_neg (fun z => aT (by rw [← z]; exact hb))).trans (if_pos hb)) (fun b => ?_)
      (.inl (.inr ⟨{ cls := .type "list", data := .seq vs.toArray }, if_pos rfl⟩)) (fun b u z => ?_) (fun b z => ?_) (fun _ => hk) (fun b hb => if_pos hb) (.inl (.inr ⟨{ cls := .type "list", data := .seq vs.toArray }, (if_neg aT).trans (if_pos rfl)⟩))
    · by_cases hb : b = a
      · exact .inr (.inr ⟨_, _, if_pos hb⟩)
      · by_cases hb2 : b ∈ TA
        · exact .inr (.inl hb2)
        · exact .inl ((if_neg hb).trans (if_neg hb2))
    · by_cases hb : b = a
      · have z' := (if_pos hb).symm.trans z
        cases z'
        rw [hb]
        exact ⟨ha, by rw [List.length_map]; exact hz, vs, _, rv, ha⟩
      · have z1 := (if_neg hb).symm.trans z
        by_cases hb2 : b ∈ TA
        · have z' := (if_pos hb2).symm.trans z1
          cases z'
          exact tb_ok b hb2 _
        · have z' := (if_neg hb2).symm.trans z1
          cases z'
    · by_cases hb : b = a
      · exact .inl hb
      · by_cases hb2 : b ∈ TA
        · exact .inr hb2
        · exact absurd ((if_neg hb).trans (if_neg hb2)) z
theorem walk_dlL {l : PySem.W.OpenLaw} {n k : Nat} {q : Program} {loose : List Str} {ls : List Str} {XP : (Str → Option Value) → Heap → Prop} {YP : World → Heap → Prop} {d : DefRec} (hn : l.most = some n) (hn2 : n ≤ LIM) (hdf : d.params.defaults = []) (hr : Room k callerA)
    (F : ∀ (w : World) (mg : Str → Option Value) (fa : Addr) (h : Heap), YP w h → h.Ns mainGlobals mg → mg d.name = some (.ref fa) →
      ∃ (K : Fr) (g : Gn), K.In h ∧ LamT K h ls ∧ (∀ base : Heap, K.In base → base.Ns mainGlobals mg → (∀ f ∈ ls, LamX.TabB base mg (cdA K f) (tabA K f)) → CD l.prog w K mg base k (.ref fa) 1 [] g) ∧ ∀ ns : List Int, ns.length ≤ n → ∃ μ, g [.d (.fl (ns.map .int))] (mu0 ls) = .ok (.d (.bl true)) μ) :
    PySem.W.WalkO q loose XP YP l.row.toRowW d [] (fun f vs => PySem.call f vs) := by
  refine Att.attach_call hn hdf fun w s₀ s₁ mg mb fa o pm cd doc a vs ns G Y ho hd hcd hmg hobj hints hlen hg => ?_
  obtain ⟨K, g, KX, T, hC, hsem⟩ := F w mg fa _ Y G.T.g hmg
  exact law_runL KX T G.T.g G.T.b G.T.builtins G.T.nolimit hg G.T.bmain hobj hints (Nat.le_trans hlen hn2) hr hC (hsem ns hlen)
end DL
set_option Elab.async false
set_option linter.all false
set_option maxRecDepth 100000
set_option maxHeartbeats 4000000
namespace DL
open PySem PySem.Spec PyProof.Rows L2
def lstD : DV → List Cel → Option (List Dat)
  | .d (.lst ds), _ => some ds
  | .c n, μ => (match μ[n]? with
    | some (.lst ds) => some ds
    | _ => none)
  | _, _ => none
theorem lst_of {K : Fr} {F H : Hp} {α : List Addr} {μ : List Cel} (m : Mem K F H α μ) {d : DV} {x : V} {ds : List Dat} (r : RepV K F α d x) (h : lstD d μ = some ds) : ∃ a xs, x = .ref a ∧ SqL K H a xs ∧ Reps K F ds xs := by
  unfold lstD at h
  split at h
  · cases h
    obtain ⟨z, a, xs, rfl, hx, rr⟩ := r
    exact ⟨a, xs, rfl, SqL.of (m.fz _ _ hx), rr⟩
  · rename_i n
    obtain ⟨a, ha, rfl⟩ := r
    split at h
    · rename_i es q
      cases h
      obtain ⟨h0, z, xs, hx, rr⟩ := m.ok n _ a q ha
      exact ⟨a, xs, rfl, SqL.of hx, rr⟩
    · cases h
  · cases h
def countD : G2 := fun x y μ => match lstD x μ, y with
  | some ds, .d a => if flatD a = true ∧ ds.all flatD = true then okD (.int (ds.countP (fun z => eqD z a) : Nat)) μ else .stuck
  | _, _ => .stuck
def lindexD : G2 := fun x y μ => match lstD x μ, y with
  | some ds, .d a => if flatD a = true ∧ ds.all flatD = true ∧ ds.findIdx (fun z => eqD z a) < ds.length then okD (.int (ds.findIdx (fun z => eqD z a) : Nat)) μ else .stuck
  | _, _ => .stuck
def rCntF (K : Fr) : V → List V → Hp → VK → Prop := fun x xs H Q => ∃ (p : Addr) (ys : List V) (y : V), x = .ref p ∧ xs = [y] ∧ SqL K H p ys ∧ flatV y = true ∧ ys.all flatV = true ∧ Q (.int (ys.countP (fun z => eqV z y) : Nat)) H
theorem eqU_cnt {y : V} : ∀ {ys : List V} {us : List Value}, Vals ys us → ys.all flatV = true → us.countP (eqU y) = ys.countP (fun z => eqV z y)
  | _, _, .nil, _ => rfl
  | _, _, .cons r t, f => by
    rw [List.all_cons, Bool.and_eq_true] at f
    rw [List.countP_cons, List.countP_cons, eqU_cnt t f.2, eqU_of r f.1]
section
variable {X : Cx}
theorem mt_cntF : MtR X "list.count" (rCntF X.K) := by
  intro pins s σ H x xs v us Q I rx rxs h
  obtain ⟨p, ys, y, rfl, rfl, hs, fy, fys, q⟩ := h
  cases rx
  cases rxs with
  | cons ry rt =>
    rename_i uy ut
    cases rt
    obtain ⟨its, rv, ⟨⟨cls, dd, data, sl⟩, n, ho, hc, hdn, hd⟩, hlen⟩ := I.list hs
    simp only at hc hd
    subst hc hd
    refine call_meets PySem.F.slot_list_count ⟨_, ho, rfl⟩ PySem.F.entry_list_count (PySem.F.args_list_count_2 _ _)
      (SeqAt.list_countAt p its.toArray n dd sl uy (eqU y)) ⟨ho, fun u' hu' => mem_eqAt ry fy rv fys u' (by simpa using hu'), ?_⟩
    refine ⟨.int (ys.countP (fun z => eqV z y) : Nat), H, I.tok _, ⟨s.toks, ?_⟩, q⟩
    show Value.int ((its.toArray.toList.countP (eqU y) : Nat) : Int) s.toks = Value.int ((ys.countP (fun z => eqV z y) : Nat) : Int) s.toks
    rw [show its.toArray.toList = its from rfl, eqU_cnt rv fys]
end
theorem cnt_rep {K : Fr} {F : Hp} {a : Dat} {y : V} (r2 : Rep K F a y) (fa : flatD a = true) : ∀ {ds : List Dat} {xs : List V}, Reps K F ds xs → ds.all flatD = true → xs.countP (fun z => eqV z y) = ds.countP (fun z => eqD z a)
  | [], _, r, _ => by cases (show _ = [] from r); rfl
  | d :: ds, _, ⟨x, r, e, h1, h2⟩, h => by
    subst e
    have h' : flatD d = true ∧ ds.all flatD = true := by simpa using h
    rw [List.countP_cons, List.countP_cons, cnt_rep r2 fa h2 h'.2, eqV_rep h1 r2 h'.1 fa]
section
variable {X : Cx} {W : WX} {o e : Expr} {xo xe : EX} {apos cpos : Pos}
theorem de_lcount (ho : DE X W o xo) (he : DE X W e xe) (hbase : attributeBase o "count" X.env (eval o X.env) = eval o X.env := by rfl)
    (hfew : ((backTo cpos (starEach (e :: []) X.env)).all (fun x => !x.1) && (backToKw cpos (keywordEach [] X.env)).all (fun x => x.1.isSome)
      && decide ((e :: []).length + ([] : List Keyword).length + (if ([] : List Keyword).isEmpty then 0 else 1) < 30)) = true := by rfl)
    (hline : (apos.endLine == cpos.line) = true := by rfl) (hs : starEach (e :: []) X.env = (false, eval e X.env) :: starEach [] X.env := by rfl) : DE X W (.Call (.Attribute o "count" apos) [e] [] cpos) (eLm1 countD xo xe) := by
  refine ⟨PE.of (pe_bm PySem.F.plainAttrs_list PySem.F.slot_list_count PySem.F.type_list_count mt_cntF ho.pe (da_cons he da_nil hs).pa hbase hfew hline hs (by rfl)) fun σ H Q h => lm1 (fun F α μ H d1 d2 x y Q W m r1 r2 o => ?_) h⟩
  unfold countD at o
  split at o
  · rename_i ds a q
    split at o
    · rename_i hc
      obtain ⟨p, xs, rfl, hx, rr⟩ := lst_of m r1 q
      refine ⟨p, xs, y, rfl, rfl, hx, flat_rep r2 hc.1, flats_rep rr hc.2, ?_⟩
      rw [cnt_rep r2 hc.1 rr hc.2]
      exact outI m o
    · exact o.elim
  · exact o.elim
theorem de_lindex (ho : DE X W o xo) (he : DE X W e xe) (hbase : attributeBase o "index" X.env (eval o X.env) = eval o X.env := by rfl)
    (hfew : ((backTo cpos (starEach (e :: []) X.env)).all (fun x => !x.1) && (backToKw cpos (keywordEach [] X.env)).all (fun x => x.1.isSome)
      && decide ((e :: []).length + ([] : List Keyword).length + (if ([] : List Keyword).isEmpty then 0 else 1) < 30)) = true := by rfl)
    (hline : (apos.endLine == cpos.line) = true := by rfl) (hs : starEach (e :: []) X.env = (false, eval e X.env) :: starEach [] X.env := by rfl) : DE X W (.Call (.Attribute o "index" apos) [e] [] cpos) (eLm1 lindexD xo xe) := by
  refine ⟨PE.of (pe_bm PySem.F.plainAttrs_list PySem.F.slot_list_index PySem.F.type_list_index mt_index ho.pe (da_cons he da_nil hs).pa hbase hfew hline hs (by rfl)) fun σ H Q h => lm1 (fun F α μ H d1 d2 x y Q W m r1 r2 o => ?_) h⟩
  unfold lindexD at o
  split at o
  · rename_i ds a q
    split at o
    · rename_i hc
      obtain ⟨fa, fs, hl⟩ := hc
      obtain ⟨p, xs, rfl, hx, rr⟩ := lst_of m r1 q
      obtain ⟨x, hxj, rx⟩ := rr.got (List.getElem?_eq_getElem hl)
      refine ⟨p, xs, y, _, x, rfl, rfl, hx, flat_rep r2 fa, flats_rep rr fs, hxj, ?_, fun k z hk hz => ?_, outI m o⟩
      · rw [eqV_rep rx r2 (flat_get fs (List.getElem?_eq_getElem hl)) fa]
        exact List.findIdx_getElem (w := hl)
      · obtain ⟨d, hd, rd⟩ := reps_at rr hz
        rw [eqV_rep rd r2 (flat_get fs hd) fa]
        obtain ⟨hkl, e2⟩ := List.getElem?_eq_some_iff.mp hd
        have := List.not_of_lt_findIdx hk
        rw [← e2]
        simpa using this
    · exact o.elim
  · exact o.elim
end
/-- what the class c of an exception must say -/
structure XaC (K : Fr) (c : Nat) : Prop where
  cl : (PySem.W.clsIn K (He.ga K (clsNm c))).isSome = true
  ga : PySem.W.findIn K (.ref (He.ga K (clsNm c))) "__getattribute__" = some (some (.builtin "BaseException.__getattribute__"))
  gg : PySem.W.findIn K (.ref (He.ga K (clsNm c))) "__getattr__" = some none
  sub : PySem.W.subIn K (.ref (He.ga K (clsNm c))) (.type "BaseException") = some true
  hd : PySem.W.hasDictIn K (He.ga K (clsNm c)) = true
  cc : PySem.W.findIn K (.ref (He.ga K (clsNm c))) "__class__" = some (some (.builtin "object.__class__"))
  gs : PySem.W.specialIn K (.builtin "object.__class__") "__get__" = some (some (.builtin "getset_descriptor.__get__"))
  tk : PySem.W.takesIn K (.builtin "object.__class__") = some true
  mro : PySem.W.mroIn K (He.ga K (clsNm c)) (.type "object") = some true
theorem xaB_ok {K : Fr} {c : Nat} (h : xaB K c = true) : XaC K c := by
  obtain ⟨h1, h⟩ := He.ba h
  obtain ⟨h2, h⟩ := He.ba h
  obtain ⟨h3, h⟩ := He.ba h
  obtain ⟨h4, h⟩ := He.ba h
  obtain ⟨h5, h⟩ := He.ba h
  obtain ⟨h6, h⟩ := He.ba h
  obtain ⟨h7, h⟩ := He.ba h
  obtain ⟨h8, h9⟩ := He.ba h
  exact ⟨h1, He.eqO_ok h2, He.eqO_ok h3, of_decide_eq_true h4, h5, He.eqO_ok h6, He.eqO_ok h7, of_decide_eq_true h8, of_decide_eq_true h9⟩
/-- the dict of a caught exception -/
def DictOf (H : Hp) (d : Option Addr) (fv : List (Str × V)) : Prop := (d = none ∧ fv = []) ∨ ∃ dx, d = some dx ∧ H dx = some (.xd fv)
theorem exn_rep {K : Fr} {F H : Hp} (z : Le F H) {c : Nat} {fs : List (Nat × Dat)} {v : V} (r : Rep K F (.exn c fs) v) : ∃ a d fv, v = .ref a ∧ Rd H a (ExH K c d a) ∧ DictOf H d fv ∧ RepF K F fs fv := by
  obtain ⟨a, d, e, h1, h2⟩ := r
  rcases h2 with ⟨rfl, rfl⟩ | ⟨dx, fv, rfl, q2, q3⟩
  · exact ⟨a, none, [], e, rd_le z h1.r, .inl ⟨rfl, rfl⟩, rfl⟩
  · exact ⟨a, some dx, fv, e, rd_le z h1.r, .inr ⟨dx, rfl, z _ _ q2⟩, q3⟩
section
variable {X : Cx} {pins : List (Addr × Obj)} {σ : St} {H : Hp} {s : Shared}
theorem exn_inst {a : Addr} {c : Nat} {d : Option Addr} {fv : List (Str × V)} (I : Inv X pins σ H s) (e : Rd H a (ExH X.K c d a)) (hd : DictOf H d fv) :
    ∃ oe od, PySem.W.InstAt s.heap a oe (He.ga X.K (clsNm c)) od ∧ ∀ f v, fv.lookup f = some v → ∃ o u, od = some o ∧ RelV v u ∧ PySem.W.lookIn f o = some (some u) := by
  obtain ⟨⟨oe, vs, ha, ⟨hz1, hz2, _⟩, hdt⟩, _, _⟩ := e.ok I.hok
  obtain ⟨oc, od, oda, osl⟩ := oe
  dsimp only at hz1 hz2 hdt
  subst hz1 hz2 hdt
  rcases hd with ⟨rfl, rfl⟩ | ⟨dx, rfl, hx⟩
  · exact ⟨_, none, ⟨ha, rfl, rfl, trivial⟩, fun f v q => by cases q⟩
  · obtain ⟨mA, hns, hr⟩ := (show ObjOk X.prog X.w H s.heap dx (.xd fv) from I.hok dx _ hx)
    obtain ⟨o, ho, hl⟩ := lookIn_ns hns
    refine ⟨_, some o, ⟨ha, rfl, rfl, ho⟩, fun f v q => ?_⟩
    obtain ⟨u, hu, ru⟩ := RelO.some_of (v := v) (o := mA f) (by rw [← q]; exact hr f)
    exact ⟨o, u, rfl, ru, by rw [hl, hu]⟩
end
def XaAll (K : Fr) (hm : List Nat) : Prop := ∀ c ∈ hm, XaC K c
theorem xaAll_ok {K : Fr} {hm : List Nat} (h : (hm.all fun c => xaB K c) = true) : XaAll K hm := fun c hc => xaB_ok (List.all_eq_true.mp h c hc)
/-- e.f of a caught exception -/
def xfG (cs : List Nat) (i : Nat) : G1 := fun x μ => match x with
  | .d (.exn c fs) => if c ∈ cs then (match fs.lookup i with
    | some d => okD d μ
    | none => .stuck) else .stuck
  | _ => .stuck
def XfOk (K : Fr) (cs : List Nat) (i : Nat) : Prop := ∀ c ∈ cs, XaC K c ∧ PySem.W.findIn K (.ref (He.ga K (clsNm c))) (fldNm i) = some none
theorem xfB_ok {K : Fr} {cs xm : List Nat} {i : Nat} (hx : XaAll K xm) (hh : (cs.all fun c => xm.contains c) = true) (h : xfB K cs i = true) : XfOk K cs i := fun c hc =>
  ⟨hx c (by simpa using List.all_eq_true.mp hh c hc), He.eqO_ok (List.all_eq_true.mp h c hc)⟩
section
variable {X : Cx} {W : WX} {p p2 pos : Pos} {e : Expr} {x : EX}
theorem de_xfld {i : Nat} {cs : List Nat} {f : Str} (he : DE X W e x) (hk : XfOk X.K cs i) (hf : f = fldNm i := by rfl) (hb : attributeBase e f X.env (eval e X.env) = eval e X.env := by rfl) : DE X W (.Attribute e f pos) (e1 (xfG cs i) x) := by
  subst hf
  refine ⟨⟨fun pins s σ H Q I h => ?_⟩⟩
  have hw : tD X.K W x σ H fun u H1 => ∃ a c d fv w, c ∈ cs ∧ u = .ref a ∧ Rd H1 a (ExH X.K c d a) ∧ DictOf H1 d fv ∧ fv.lookup (fldNm i) = some w ∧ Q w H1 := by
    refine tX_bind (f := fun _ x μ => xfG cs i x μ) h fun F α ρ μ v u H1 m s rv o => ?_
    unfold xfG at o
    split at o
    · rename_i c fs
      split at o
      · rename_i hc
        split at o
        · rename_i d hd
          obtain ⟨a, dd, fv, rfl, h1, h2, h3⟩ := exn_rep m.fz rv
          obtain ⟨w, q1, q2⟩ := repF_look h3 hd
          exact ⟨a, c, dd, fv, w, hc, rfl, h1, h2, q1, OutOk.here (R := RV X.K) o m q2⟩
        · exact o.elim
      · exact o.elim
    · exact o.elim
  refine attr_of hb (thn (he.pe.run pins s σ H _ I hw) fun u s1 ⟨xx, H1, I1, rx, a, c, d, fv, w, hc, ex, ea, hd, hl, q⟩ => ?_)
  subst ex
  obtain rfl : u = Value.ref a := rx
  obtain ⟨T, hno⟩ := hk c hc
  obtain ⟨oe, od, J, look⟩ := exn_inst I1 ea hd
  obtain ⟨o, v, rfl, rv, hlk⟩ := look _ _ hl
  exact HandSPX.exc_get I1.kIn J T.ga T.gg T.sub (PySem.W.findObj_own T.hd hno rfl hlk) (handed_of rv) ⟨w, H1, I1.tok _, rv, q⟩
end
/-- isinstance(e, C) of a caught exception -/
def isiE (cc : List (Nat × Bool)) : G1 := fun x μ => match x with
  | .d (.exn c _) => (match cc.lookup c with
    | some b => okD (.bl b) μ
    | none => .stuck)
  | _ => .stuck
def rIsT (K : Fr) (u : Value) : List V → Hp → VK → Prop := fun xs H Q => ∃ (cv : V) (c : Nat) (a : Addr) (d : Option Addr) (fv : List (Str × V)) (b : Bool), xs = [.ref a, cv] ∧ Rd H a (ExH K c d a) ∧ DictOf H d fv ∧ (∀ w, RelV cv w → w = u) ∧
  PySem.W.kitOne K (.ref (He.ga K (clsNm c))) u = some b ∧ XaC K c ∧ Q (.bl b) H
theorem call_isT {X : Cx} {u : Value} : CallR X (.builtin "isinstance") (rIsT X.K u) := by
  intro pins s σ H xs us Q I r h
  obtain ⟨cv, c, a, d, fv, b, rfl, ea, hd, hcv, e, T, q⟩ := h
  cases r with
  | cons rx rr =>
    cases rr with
    | cons rt rr =>
      cases rr
      cases rx
      have ec := hcv _ rt
      subst ec
      obtain ⟨oe, od, J, _⟩ := exn_inst I ea hd
      exact PySem.W.kia_one (PySem.W.kitx_exc (gt := none) T.cl T.ga T.gg T.sub T.cc T.gs T.tk T.mro) I.kIn J e (fun z => nomatch z) fun tk => ⟨.bl b, H, I.kept (t' := tk) fun _ _ z => z, rfl, q⟩
theorem isiE_ok {K : Fr} {u : Value} {cv : V} {cc : List (Nat × Bool)} (hcv : ∀ w, RelV cv w → w = u) (hc : isiEB K u cc = true) {xm : List Nat} (hx : XaAll K xm) (hh : (cc.all fun p => xm.contains p.1) = true) {F H : Hp} {α : List Addr} {μ : List Cel} {d : DV} {w : V} {Q : VK} {W : XK} (m : Mem K F H α μ) (r : RepV K F α d w) (o : OutOk (RV K) K F α (isiE cc d μ) Q W) : rIsT K u [w, cv] H Q := by
  unfold isiE at o
  split at o
  · rename_i c fs
    split at o
    · rename_i b hb
      obtain ⟨a, dd, fv, rfl, h1, h2, _⟩ := exn_rep m.fz r
      have z1 := List.all_eq_true.mp hc _ (lookup_mem hb)
      have z2 : xm.contains c = true := List.all_eq_true.mp hh _ (lookup_mem hb)
      exact ⟨cv, c, a, dd, fv, b, rfl, h1, h2, hcv, of_decide_eq_true z1, hx c (by simpa using z2), outB m o⟩
    · exact o.elim
  · exact o.elim
section
variable {X : Cx} {W : WX} {p p2 pos : Pos} {e : Expr} {x : EX}
theorem de_isiE {y : Str} {C : Addr} {cc : List (Nat × Bool)} (hg : Gl X "isinstance") (hm : X.mg "isinstance" = none) (hg2 : Gl X y) (hm2 : X.mg y = some (.ref C)) (hc : isiEB X.K (.ref C) cc = true) {xm : List Nat} (hx : XaAll X.K xm) (hh : (cc.all fun p => xm.contains p.1) = true) (he : DE X W e x) (hd : (y == ("__debug__" : Str)) = false := by decide +kernel)
    (hs : starEach [e, .Name y p2] X.env = (false, eval e X.env) :: starEach [.Name y p2] X.env := by rfl) (hs2 : starEach [.Name y p2] X.env = (false, eval (.Name y p2) X.env) :: starEach [] X.env := by rfl) (hpl : (backTo pos (starEach [.Name y p2] X.env)).any (·.1) = false := by rfl) :
    DE X W (.Call (.Name "isinstance" p) [e, .Name y p2] [] pos) (e1 (isiE cc) x) := by
  refine ⟨PE.of (pe_callB (call_isT (u := .ref C)) hg hm boot_isinstance (pa_cons he.pe (pa_cons (pe_glob hg2 hm2 (v := .ref C) rfl hd) pa_nil hs2) hs) (by decide) (by decide) hs hpl) fun σ H Q h => ?_⟩
  refine tX_bind (f := fun _ x μ => isiE cc x μ) h fun F α ρ μ v u H1 m s rv o => ?_
  exact isiE_ok (cv := .ref C) (fun w r => (show w = .ref C from r)) hc hx hh m rv o
theorem de_isiEB {y : Str} (T : String) {cc : List (Nat × Bool)} (hg : Gl X "isinstance") (hm : X.mg "isinstance" = none) (hg2 : Gl X y) (hm2 : X.mg y = none) (hv : bootBuiltins y = some (.type T)) (hc : isiEB X.K (.type T) cc = true) {xm : List Nat} (hx : XaAll X.K xm) (hh : (cc.all fun p => xm.contains p.1) = true) (he : DE X W e x) (hn : y ≠ "__name__" := by decide) (hd : (y == ("__debug__" : Str)) = false := by decide)
    (hs : starEach [e, .Name y p2] X.env = (false, eval e X.env) :: starEach [.Name y p2] X.env := by rfl) (hs2 : starEach [.Name y p2] X.env = (false, eval (.Name y p2) X.env) :: starEach [] X.env := by rfl) (hpl : (backTo pos (starEach [.Name y p2] X.env)).any (·.1) = false := by rfl) :
    DE X W (.Call (.Name "isinstance" p) [e, .Name y p2] [] pos) (e1 (isiE cc) x) := by
  refine ⟨PE.of (pe_callB (call_isT (u := .type T)) hg hm boot_isinstance (pa_cons he.pe (pa_cons (pe_tyN hg2 hm2 hv hn hd) pa_nil hs2) hs) (by decide) (by decide) hs hpl) fun σ H Q h => ?_⟩
  refine tX_bind (f := fun _ x μ => isiE cc x μ) h fun F α ρ μ v u H1 m s rv o => ?_
  exact isiE_ok (cv := .ty T) (fun w r => (show w = .type T from r)) hc hx hh m rv o
end
end DL
set_option Elab.async false
set_option linter.all false
set_option maxRecDepth 100000
set_option maxHeartbeats 4000000
namespace DL
open PySem PySem.Spec PyProof.Rows L2
def binOwnX (c : Nat) (g : Gn) : G2 := fun x y μ => if insC x μ = some c ∧ insC y μ = some c then g [x, y] μ else .stuck
def binTyX (c : Nat) (tt : List String) (g : Gn) : G2 := fun x y μ => if insC x μ = some c then (match tyNm y μ with
  | some t => if tt.contains t = true then g [x, y] μ else .stuck
  | none => .stuck) else .stuck
section
variable {Q : DV → List Cel → Prop} {X : Exn → List Cel → Prop} {μ : List Cel} {x y : DV} {c : Nat} {g : Gn}
@[simp] theorem we_binOwnX : WE (binOwnX c g x y μ) Q X = (insC x μ = some c ∧ insC y μ = some c ∧ WE (g [x, y] μ) Q X) := by
  unfold binOwnX
  by_cases h1 : insC x μ = some c <;> by_cases h2 : insC y μ = some c <;> simp [h1, h2]
@[simp] theorem we_binTyX {tt : List String} : WE (binTyX c tt g x y μ) Q X = (insC x μ = some c ∧ ∃ t, tyNm y μ = some t ∧ tt.contains t = true ∧ WE (g [x, y] μ) Q X) := by
  unfold binTyX
  by_cases h1 : insC x μ = some c
  · cases h2 : tyNm y μ with
    | none => simp [h1]
    | some t =>
      by_cases h3 : t ∈ tt
      · simp [h1, h3]
      · simp [h1, h3]
  · simp [h1]
end
end DL
set_option Elab.async false
set_option linter.all false
set_option maxRecDepth 100000
set_option maxHeartbeats 4000000
namespace PySem
open PySem.Spec PyProof.Rows
end PySem
namespace L2
open PySem PySem.Spec PyProof.Rows
end L2
namespace DL
open PySem PySem.Spec PyProof.Rows L2
def extendT : G2 := fun x y μ => match x, y with
  | .c n, .d (.tup es) => (match μ[n]? with
    | some (.lst ds) => if ds.length + es.length ≤ LIM then .ok (.d .non) (μ.set n (.lst (ds ++ es))) else .stuck
    | _ => .stuck)
  | _, _ => .stuck
section
variable {Q : DV → List Cel → Prop} {X : Exn → List Cel → Prop} {μ : List Cel}
@[simp] theorem we_extendT {n : Nat} {es : List Dat} : WE (extendT (.c n) (.d (.tup es)) μ) Q X = ∃ ds, μ[n]? = some (.lst ds) ∧ ds.length + es.length ≤ 16777216 ∧ Q (.d .non) (μ.set n (.lst (ds ++ es))) := by
  unfold extendT
  dsimp only
  cases h : μ[n]? with
  | none => simp
  | some c => cases c <;> simp [we_ite]
end
end DL
set_option Elab.async false
set_option linter.all false
set_option maxRecDepth 100000
set_option maxHeartbeats 4000000
namespace DL
open PySem PySem.Spec PyProof.Rows L2
def frzS (i : Nat) (g : SX) : SX := fun ρ μ => match ρ[i]? with
  | some (some (.c n)) => (match μ[n]? with
    | some (.lst ds) => g (ρ.set i (some (.d (.lst ds)))) (μ.set n .dead)
    | _ => .stuck)
  | _ => .stuck
@[simp] theorem ws_frzS {i : Nat} {g : SX} {ρ : Rho} {μ : List Cel} {N : Rho → List Cel → Prop} {R : DV → List Cel → Prop} {X : Exn → Rho → List Cel → Prop} :
    WS (frzS i g ρ μ) N R X = ∃ n ds, ρ[i]? = some (some (.c n)) ∧ μ[n]? = some (.lst ds) ∧ WS (g (ρ.set i (some (.d (.lst ds)))) (μ.set n .dead)) N R X := by
  unfold frzS
  apply propext
  constructor
  · intro h
    split at h
    · rename_i n e
      split at h
      · rename_i ds q
        exact ⟨n, ds, e, q, h⟩
      · exact h.elim
    · exact h.elim
  · rintro ⟨n, ds, e, q, h⟩
    rw [e]
    simp only [q]
    exact h
end DL
set_option Elab.async false
set_option linter.all false
set_option maxRecDepth 100000
set_option maxHeartbeats 4000000
namespace DL
open PySem PySem.Spec PyProof.Rows L2
end DL
set_option Elab.async false
set_option linter.all false
set_option maxRecDepth 100000
set_option maxHeartbeats 4000000
namespace DL
open PySem PySem.Spec PyProof.Rows L2
mutual
def shalX : Nat → Dat → Bool
  | _, .non => true
  | _, .bl _ => true
  | _, .int _ => true
  | _, .dic => true
  | _, .str s => s.all fun c => decide (c < 128)
  | n + 1, .tup ds => shalXs n ds
  | n + 1, .lst ds => shalXs n ds
  | _, _ => false
def shalXs : Nat → List Dat → Bool
  | _, [] => true
  | n, d :: ds => shalX n d && shalXs n ds
end
mutual
def pyX : Dat → PyData
  | .non => .none
  | .bl b => .bool b
  | .int i => .int i
  | .str s => .str (sV s)
  | .tup ds => .tuple (pyXs ds)
  | .lst ds => .list (pyXs ds)
  | .dic => .dict []
  | _ => .none
def pyXs : List Dat → List PyData
  | [] => []
  | d :: ds => pyX d :: pyXs ds
end
def rdY (d : Dat) : List Nat := (pyX d).shown.cps.toList
def okY (d : Dat) : Bool := shalX 60 d && ((pyX d).showable && decide ((pyX d).shown.length ≤ LIM))
def reprY : G1
  | .d d, μ => if okY d then okD (.str (rdY d)) μ else .stuck
  | _, _ => .stuck
theorem sV_rdY (d : Dat) : sV (rdY d) = (pyX d).shown := by
  unfold sV rdY
  simp
theorem rdY_len (d : Dat) : (rdY d).length = (pyX d).shown.length := by
  unfold rdY Str.length
  simp
mutual
theorem depthX : ∀ (d : Dat) (n : Nat), shalX n d = true → (pyX d).depth ≤ n + 1
  | .non, n, _ => by simp [pyX, PyData.depth]
  | .bl _, n, _ => by simp [pyX, PyData.depth]
  | .int _, n, _ => by simp [pyX, PyData.depth]
  | .str _, n, _ => by simp [pyX, PyData.depth]
  | .dic, n, _ => by simp [pyX, PyData.depth, PyData.depthKv]
  | .tup ds, 0, h => by simp [shalX] at h
  | .lst ds, 0, h => by simp [shalX] at h
  | .tup ds, n + 1, h => by
    have := depthXs ds n (by simpa [shalX] using h)
    simp [pyX, PyData.depth]; omega
  | .lst ds, n + 1, h => by
    have := depthXs ds n (by simpa [shalX] using h)
    simp [pyX, PyData.depth]; omega
  | .ins _ _, n, h => by cases n <;> simp [shalX] at h
  | .fl _, n, h => by cases n <;> simp [shalX] at h
  | .cls _, n, h => by cases n <;> simp [shalX] at h
  | .exn _ _, n, h => by cases n <;> simp [shalX] at h
theorem depthXs : ∀ (ds : List Dat) (n : Nat), shalXs n ds = true → PyData.depthAll (pyXs ds) ≤ n + 1
  | [], n, _ => by simp [pyXs, PyData.depthAll]
  | d :: ds, n, h => by
    have h1 : shalX n d = true ∧ shalXs n ds = true := by simpa [shalXs] using h
    have a := depthX d n h1.1
    have b := depthXs ds n h1.2
    simp [pyXs, PyData.depthAll]; omega
end
theorem noSys {X : Cx} {pins : List (Addr × Obj)} {σ : L2.St} {H : Hp} {s : Shared} (I : Inv X pins σ H s) (hb : ∃ o, X.K.lookup sysModules = some o) {a : Addr} {u : HO} (h : H a = some u) : a ≠ sysModules := by
  intro e
  subst e
  obtain ⟨o, ho⟩ := hb
  have e := (I.bs _ _ (I.ok.mod.kin _ _ ho)).2
  rw [h] at e
  cases e
mutual
theorem readsX {X : Cx} {pins : List (Addr × Obj)} {σ : L2.St} {F H : Hp} {s : Shared} (I : Inv X pins σ H s) (hb : ∃ o, X.K.lookup sysModules = some o) (e : Le F H) : ∀ (n : Nat) (d : Dat) (v : V) (u : Value), shalX n d = true → Rep X.K F d v → RelV v u → ∃ as, Reads s.heap u (pyX d) as ∧ sysModules ∉ as
  | _, .non, _, _, _, r, q => by
    cases r; cases q
    exact ⟨_, Reads.none, by simp⟩
  | _, .bl b, _, _, _, r, q => by
    cases r; cases q
    exact ⟨_, Reads.bool b, by simp⟩
  | _, .int i, _, _, _, r, q => by
    cases r
    obtain ⟨t, rfl⟩ := q
    exact ⟨_, Reads.int i t, by simp⟩
  | _, .str x, _, _, _, ⟨_, r⟩, q => by
    cases r
    obtain ⟨t, rfl⟩ := q
    exact ⟨_, Reads.str _ t, by simp⟩
  | _, .dic, _, _, _, ⟨a, r, ha⟩, q => by
    subst r
    cases q
    have ha := e _ _ ha
    obtain ⟨_, lo, vs, kv, hd⟩ := (show ObjOk X.prog X.w H s.heap a (.dK []) from I.hok a _ ha)
    have ev : vs = [] := by
      have := Paired.length kv
      simpa using this.symm
    subst ev
    obtain ⟨o, es, ep, ho, hx, hdat, _, hp, _⟩ := hd
    have e0 : es.toList = [] := by
      generalize es.toList = l at hp
      cases hp
      rfl
    have rd : Reads s.heap (.ref a) (.dict []) [a] := by
      have z : Reads s.heap (.ref a) (.dict []) (a :: [] ++ []) := by
        refine Reads.dict ho hx.1 hdat ?_ ?_
        · rw [e0]; exact .nil
        · rw [e0]; exact .nil
      exact z
    exact ⟨_, rd, fun hm => noSys I hb ha (List.mem_singleton.mp hm).symm⟩
  | 0, .tup _, _, _, h, _, _ => by simp [shalX] at h
  | 0, .lst _, _, _, h, _, _ => by simp [shalX] at h
  | n + 1, .tup ds, _, _, h, ⟨_, a, xs, e1, h2, r⟩, q => by
    subst e1
    cases q
    obtain ⟨its, rv, ⟨o, ho, hc, n, hd⟩, _⟩ := I.tuple (sqT_le e h2)
    obtain ⟨as, hr, no⟩ := readsXs I hb e _ ds _ its (by simpa [shalX] using h) r rv
    exact ⟨_, Reads.tuple ho hc hd hr, no⟩
  | n + 1, .lst ds, _, _, h, ⟨_, a, xs, e1, h2, r⟩, q => by
    subst e1
    cases q
    have h2 := e _ _ h2
    obtain ⟨its, rv, ⟨o, n, ho, hc, _, hd⟩, _⟩ := I.list (SqL.of h2)
    obtain ⟨as, hr, no⟩ := readsXs I hb e _ ds _ its (by simpa [shalX] using h) r rv
    refine ⟨_, Reads.list ho hc hd hr, fun hm => ?_⟩
    rcases List.mem_cons.mp hm with hm | hm
    · exact noSys I hb h2 hm.symm
    · exact no hm
  | n, .ins _ _, _, _, h, _, _ => by cases n <;> simp [shalX] at h
  | n, .fl _, _, _, h, _, _ => by cases n <;> simp [shalX] at h
  | n, .cls _, _, _, h, _, _ => by cases n <;> simp [shalX] at h
  | n, .exn _ _, _, _, h, _, _ => by cases n <;> simp [shalX] at h
theorem readsXs {X : Cx} {pins : List (Addr × Obj)} {σ : L2.St} {F H : Hp} {s : Shared} (I : Inv X pins σ H s) (hb : ∃ o, X.K.lookup sysModules = some o) (e : Le F H) : ∀ (n : Nat) (ds : List Dat) (vs : List V) (us : List Value), shalXs n ds = true → Reps X.K F ds vs → Vals vs us → ∃ as, ReadsAll s.heap us (pyXs ds) as ∧ sysModules ∉ as
  | _, [], _, _, _, r, q => by
    cases (show _ = [] from r)
    cases q
    exact ⟨_, ReadsAll.nil, by simp⟩
  | n, d :: ds, _, _, h, ⟨x, r, e1, r1, r2⟩, q => by
    subst e1
    have h1 : shalX n d = true ∧ shalXs n ds = true := by simpa [shalXs] using h
    cases q with
    | cons q1 q2 =>
      obtain ⟨as, a1, a2⟩ := readsX I hb e n d _ _ h1.1 r1 q1
      obtain ⟨bs, b1, b2⟩ := readsXs I hb e n ds _ _ h1.2 r2 q2
      exact ⟨_, ReadsAll.cons a1 b1, fun hm => (List.mem_append.mp hm).elim a2 b2⟩
end
section
variable {X : Cx} {W : WX} {p pos : Pos} {e : Expr} {x : EX}
def rReprY (K : Fr) : List V → Hp → VK → Prop := fun xs H Q => ∃ (F : Hp) (d : Dat) (x : V), xs = [x] ∧ Le F H ∧ Rep K F d x ∧ shalX 60 d = true ∧ (pyX d).showable = true ∧ (pyX d).shown.length ≤ sizeLine ∧ Q (.str (pyX d).shown) H
theorem call_reprY (hg : X.A.guards = some []) (hu : X.A.units + 64 < cLine) (hb : ∃ o, X.K.lookup sysModules = some o) : CallR X (.builtin "repr") (rReprY X.K) := by
  intro pins s σ H xs us Q I r h
  obtain ⟨F, d, x, rfl, hF, rp, sh, hs, hz, q⟩ := h
  obtain ⟨u, rfl, rx⟩ := vals1 r
  have dep := depthX d 60 sh
  have far : ∀ (a : Addr), u = .ref a → wpAny (model X.prog X.w) X.A (call (.builtin "repr") [u]) (EP X pins σ Q) X.xe s := fun a ea => by
    obtain ⟨as, rd, no⟩ := readsX I hb hF 60 d x u sh rp rx
    subst ea
    exact repr_of_reads' rd hs (fun _ => no) hg (by omega) (fun b o e => e) (fun h' u tk k => ⟨.str _, H, I.kept (t' := tk) k, ⟨u, rfl⟩, q⟩) hz
  cases d with
  | non => exact call_reprD hg hu pins s σ H _ _ Q I r ⟨x, pyX .non, rfl, dp_of hF 60 .non x rfl rp, rfl, by decide, hs, hz, q⟩
  | bl b => exact call_reprD hg hu pins s σ H _ _ Q I r ⟨x, pyX (.bl b), rfl, dp_of hF 60 (.bl b) x rfl rp, rfl, by simp [pyX, PyData.depth], hs, hz, q⟩
  | int i => exact call_reprD hg hu pins s σ H _ _ Q I r ⟨x, pyX (.int i), rfl, dp_of hF 60 (.int i) x rfl rp, rfl, by simp [pyX, PyData.depth], hs, hz, q⟩
  | str y => exact call_reprD hg hu pins s σ H _ _ Q I r ⟨x, pyX (.str y), rfl, dp_of hF 60 (.str y) x (by simpa [shalX, shal] using sh) rp, (lay_of (.str y) 60 (by simpa [shalX, shal] using sh)).1, by simp [pyX, PyData.depth], hs, hz, q⟩
  | tup ds =>
    obtain ⟨_, a, xs, rfl, _, _⟩ := rp
    exact far a rx
  | lst ds =>
    obtain ⟨_, a, xs, rfl, _, _⟩ := rp
    exact far a rx
  | dic =>
    obtain ⟨a, rfl, _⟩ := rp
    exact far a rx
  | ins _ _ => simp [shalX] at sh
  | fl _ => simp [shalX] at sh
  | cls _ => simp [shalX] at sh
  | exn _ _ => simp [shalX] at sh
theorem de_reprY (gd : X.A.guards = some []) (hu : X.A.units + 64 < cLine) (hb : ∃ o, X.K.lookup sysModules = some o) (hg : Gl X "repr") (hm : X.mg "repr" = none) (he : DE X W e x) (hs : starEach [e] X.env = (false, eval e X.env) :: starEach [] X.env := by rfl) : DE X W (.Call (.Name "repr" p) [e] [] pos) (e1 reprY x) := by
  refine ⟨PE.of (pe_callB (call_reprY gd hu hb) hg hm (by decide +kernel) (pa_cons he.pe pa_nil hs) (by decide) (by decide) hs (by rfl)) fun σ H Q h => ?_⟩
  refine tX_bind (f := fun _ x μ => reprY x μ) h fun F α ρ μ v u H1 m s rv o => ?_
  unfold reprY at o
  split at o
  · rename_i d
    split at o
    · rename_i hd
      unfold okY at hd
      simp only [Bool.and_eq_true, decide_eq_true_eq] at hd
      obtain ⟨h1, h2, h3⟩ := hd
      refine ⟨F, d, u, rfl, m.fz, rv, h1, h2, lim_line h3, ?_⟩
      have z := outS m (by rw [rdY_len]; exact h3) o
      rw [sV_rdY] at z
      exact z
    · exact o.elim
  · exact o.elim
end
mutual
theorem ascX : ∀ (n : Nat) (d : Dat), shalX n d = true → Asc (pyX d).shown
  | _, .non, _ => asc_lit (by decide)
  | _, .bl b, _ => by cases b <;> exact asc_lit (by decide)
  | _, .int i, _ => asc_int i
  | _, .dic, _ => by
    show Asc (dictText [])
    unfold dictText
    exact Asc.app (Asc.app (asc_lit (by decide)) (asc_join (ts := []) fun t ht => by simp at ht)) (asc_lit (by decide))
  | _, .str s, h => by
    refine asc_repr fun c hc => ?_
    rw [sV_cps] at hc
    have h' : ∀ c ∈ s, c < 128 := by simpa [shalX] using h
    exact h' c hc
  | 0, .tup ds, h => by simp [shalX] at h
  | 0, .lst ds, h => by simp [shalX] at h
  | n + 1, .tup ds, h => asc_tuple (ascXs n ds (by simpa [shalX] using h))
  | n + 1, .lst ds, h => asc_list (ascXs n ds (by simpa [shalX] using h))
  | n, .fl _, h => by cases n <;> simp [shalX] at h
  | n, .ins _ _, h => by cases n <;> simp [shalX] at h
  | n, .cls _, h => by cases n <;> simp [shalX] at h
  | n, .exn _ _, h => by cases n <;> simp [shalX] at h
theorem ascXs : ∀ (n : Nat) (ds : List Dat), shalXs n ds = true → ∀ t ∈ PyData.shownAll (pyXs ds), Asc t
  | _, [], _ => fun t ht => by simp [pyXs, PyData.shownAll] at ht
  | n, d :: ds, h => fun t ht => by
    have h' : shalX n d = true ∧ shalXs n ds = true := by simpa [shalXs] using h
    rcases List.mem_cons.mp (show t ∈ (pyX d).shown :: PyData.shownAll (pyXs ds) from ht) with rfl | ht
    · exact ascX n d h'.1
    · exact ascXs n ds h'.2 t ht
end
theorem rdY_asc {d : Dat} (h : okY d = true) : ∀ c ∈ rdY d, c < 128 := by
  unfold okY at h
  intro c hc
  exact ascX 60 _ (He.ba h).1 c hc
@[simp] theorem we_reprY {d : Dat} {μ : List Cel} {Q : DV → List Cel → Prop} {X : Exn → List Cel → Prop} : WE (reprY (.d d) μ) Q X = (okY d = true ∧ Q (.d (.str (rdY d))) μ) := we_ite
end DL
set_option Elab.async false
set_option linter.all false
set_option maxRecDepth 100000
set_option maxHeartbeats 4000000
namespace DL
open PySem PySem.Spec PyProof.Rows L2
def eqNil : G2 := fun x y μ => match x, y with
  | .d (.tup a), .d (.tup []) => okD (.bl a.isEmpty) μ
  | _, _ => .stuck
@[simp] theorem we_eqN {a : List Dat} {μ : List Cel} {Q : DV → List Cel → Prop} {X : Exn → List Cel → Prop} : WE (eqNil (.d (.tup a)) (.d (.tup [])) μ) Q X = Q (.d (.bl a.isEmpty)) μ := rfl
end DL
set_option Elab.async false
set_option linter.all false
set_option maxRecDepth 100000
set_option maxHeartbeats 4000000
namespace PySem.HandSPX
open PySem PySem.Spec PyProof.Rows
section
variable {prog : Program} {w : World} {A : Around} {E : Value → Shared → Prop} {R : Result → Shared → Prop} {h : Heap} {g : Array GenState} {d : Drawn} {t : Nat} {os : OsState}
variable {nm q : Str} {C N : Addr} {bs bm bmB : List Value} {hdct : Bool} {sn : List Str} {sub : List Value} {ab : Bool} {col : Option Bool} {dd : Option Addr} {k0 k1 k2 k3 k5 : Option Value} {B newId initId : String} {f : Str} {v : Value}
theorem check_new_ownK {M : Model} (F : ExcBaseFacts B newId initId bmB) (hT : ∀ X : String, bm.contains (.type X) = bmB.contains (.type X)) {Q : Unit → Shared → Prop}
    (hC : h.get? C = some (excClassObj nm q C N bs bm hdct sn sub ab col dd k0 k1 k2 k3 k5 newId)) (hq : Q () ⟨h, g, d, t, os⟩) : wpAny M A (checkBuiltinCall newId ⟨[.ref C], [(f, v)]⟩) Q E ⟨h, g, d, t, os⟩ := by
  have hcont : (Value.ref C :: bm).contains (.type B) = true := by rw [List.contains_cons, hT, F.hasB, Bool.or_true]
  have hstar := F.noStar
  simp only [checkBuiltinCall, F.newKind, F.newSplit, F.newRow]
  repeat (first | refine wpAny_loadPart_at hC ?_ | (refine wpAny_isSubtype_exc hC ?_; rw [hcont]) | refine wpAny_staticBase_exc hC ?_ | refine wpAny_madeBy_exc hC ?_ | simp only [bne_self_eq_false, Bool.false_eq_true, if_false] | wp_step)
  exact hq
theorem new_ownK (F : ExcBaseFacts B newId initId bmB) (hT : ∀ X : String, bm.contains (.type X) = bmB.contains (.type X))
    (hC : h.get? C = some (excClassObj nm q C N bs bm hdct sn sub ab col dd k0 k1 k2 k3 k5 newId))
    (hq : R (.ok (.ret (.ref (h.objs.size + 1)))) ⟨(h.push { cls := .type "tuple", data := .seq #[] }).push
      { cls := .ref C, data := .fields #[.ref h.objs.size, .none, .none, .none, .bool false, .none] }, g, d, t, os⟩) :
    codeAny (model prog w) A (.builtin newId ⟨[.ref C], [(f, v)]⟩) R ⟨h, g, d, t, os⟩ := by
  have hends := F.ends
  have hcB : (Value.ref C :: bm).contains (.type B) = true := by rw [List.contains_cons, hT, F.hasB, Bool.or_true]
  have hcA : (Value.ref C :: bm).contains (.type "AttributeError") = false := by rw [List.contains_cons, hT, F.noAttr]; rfl
  have hcN : (Value.ref C :: bm).contains (.type "NameError") = false := by rw [List.contains_cons, hT, F.noName]; rfl
  have hrest : ([] : List Value).length ≤ sizeLine := by rw [sizeLine_eq]; decide
  refine codeAny_builtinAt F.entry ?_
  unfold Builtin.«BaseException.__new__»
  refine wpAt_bind ?_
  show wpAt _ _ _ (stack >>= _) _ _ _
  refine wpAt_bind (wpAt_stack fun p below => wpAt_of_wpAny ?_)
  wp_walk
  refine wpAt_of_wpAny ?_
  rw [F.owner]
  repeat (first | with_reducible refine wpAny_madeHere_exc F.canon hC ?_ | with_reducible refine wpAny_loadPart_at hC ?_ | (with_reducible refine wpAny_isSubtype_exc hC ?_; first | rw [hcB] | rw [hcA] | rw [hcN]) | wp_step)
  show R _ _
  rw [Heap.size_push]
  exact hq
theorem type_call_ownK (F : ExcBaseFacts B newId initId bmB) (hT : ∀ X : String, bm.contains (.type X) = bmB.contains (.type X)) {fI : Addr} {Q : Fin → Shared → Prop}
    (hC : h.get? C = some (excClassObj nm q C N bs bm hdct sn sub ab col dd k0 k1 k2 k3 k5 newId))
    (hi : W.Looks (model prog w) h (typeLookup (.ref C) "__init__") (some (.ref fI))) (hb : ∀ self, W.Looks (model prog w) h (bindSpecial (.ref fI) self) (.ref fI, [self]))
    (hq : codeAny (model prog w) A (.call (.ref fI) ⟨[.ref (h.objs.size + 1)], [(f, v)]⟩)
      (fun r s' => match r with | .ok (.ret v) => v = .none ∧ Q (.done (.ret (.ref (h.objs.size + 1)))) s' | .ok _ => False | .error e => E e s')
      ⟨(h.push (W.kdv_tup [])).push (excO C h.objs.size), g, d, t, os⟩) :
    wpAny (model prog w) A (Builtin.«type.__call__» ⟨[.ref C], [(f, v)]⟩) Q E ⟨h, g, d, t, os⟩ := by
  repeat (first | with_reducible refine wpAny_loadPart_at hC ?_ | with_reducible refine wpAny_madeBy_exc hC ?_ | wp_step)
  refine codeAny_call_builtin_code (Code.quiet_builtin _ F.quiet) (check_new_ownK F hT hC ?_)
  refine new_ownK F hT hC ?_
  show wpAny _ _ _ _ _ _
  have k : ∀ b o, h.get? b = some o → ((h.push (W.kdv_tup [])).push (excO C h.objs.size)).get? b = some o := fun b o e => Heap.get?_push_of_some _ (Heap.get?_push_of_some _ e)
  have hC₁ := k _ _ hC
  have hget : ((h.push (W.kdv_tup [])).push (excO C h.objs.size)).get? (h.objs.size + 1) = some (excO C h.objs.size) := by heap_get
  have hcC : (Value.ref C :: bm).contains (.ref C) = true := by simp
  have i1 := hi.keeps k
  have b1 := (hb (.ref (h.objs.size + 1))).keeps k
  unfold isInstance
  repeat (first | with_reducible refine wpAny_loadPart_at hget ?_ | (with_reducible refine wpAny_isSubtype_exc hC₁ ?_; rw [hcC]) | wp_step)
  show wpAny _ _ (typeLookup (.ref C) _) _ _ _
  refine i1.at ?_
  refine wpAny_holding (wpAny_bind (b1.at ?_))
  refine wpAny_bind (wpAny_call (codeAny_mono hq fun r s' z => ?_))
  rcases r with e | (v | _ | _ | _) <;> first | exact z | exact z.elim | skip
  obtain ⟨rfl, z⟩ := z
  first
    | exact wpAny_pure (wpAny_pure z)
    | (wp_walk; exact z)
theorem check_type_callK {M : Model} {Q : Unit → Shared → Prop} (hC : h.get? C = some (excClassObj nm q C N bs bm hdct sn sub ab col dd k0 k1 k2 k3 k5 newId))
    (hq : Q () ⟨h, g, d, t, os⟩) : wpAny M A (checkBuiltinCall "type.__call__" ⟨[.ref C], [(f, v)]⟩) Q E ⟨h, g, d, t, os⟩ := by
  have f3 := tc_sub
  have hT : (⟨h, g, d, t, os⟩ : Shared).TypeIs (.ref C) "type" := ⟨_, hC, rfl⟩
  simp only [checkBuiltinCall, tc_kind, tc_split]
  repeat (any_goals (first | assumption | with_reducible refine wpAny_loadPart_at hC ?_ | with_reducible refine wpAny_onRaise ?_ | with_reducible refine wpAny_map ?_ | wp_step))
theorem call_ownK (F : ExcBaseFacts B newId initId bmB) (hT : ∀ X : String, bm.contains (.type X) = bmB.contains (.type X)) {fI : Addr}
    (hC : h.get? C = some (excClassObj nm q C N bs bm hdct sn sub ab col dd k0 k1 k2 k3 k5 newId))
    (hi : W.Looks (model prog w) h (typeLookup (.ref C) "__init__") (some (.ref fI))) (hb : ∀ self, W.Looks (model prog w) h (bindSpecial (.ref fI) self) (.ref fI, [self]))
    (hq : codeAny (model prog w) (A.under (.builtin "type.__call__" ⟨[.ref C], [(f, v)]⟩)) (.call (.ref fI) ⟨[.ref (h.objs.size + 1)], [(f, v)]⟩) (W.InitBack (h.objs.size + 1) R)
      ⟨(h.push (W.kdv_tup [])).push (excO C h.objs.size), g, d, t, os⟩) :
    codeAny (model prog w) A (.call (.ref C) ⟨[], [(f, v)]⟩) R ⟨h, g, d, t, os⟩ := by
  have f1 := tc_lookup
  have f2 := tc_bind (.ref C)
  have hTy : (⟨h, g, d, t, os⟩ : Shared).TypeIs (.ref C) "type" := ⟨_, hC, rfl⟩
  refine codeAny_of_tree ?_
  show wpAny _ _ (callAny (.ref C) _) _ _ _
  repeat (any_goals (first | assumption | with_reducible refine wpAny_loadPart_at hC ?_ | wp_step))
  refine ⟨rfl, ?_⟩
  refine codeAny_call_builtin_at (Code.quiet_builtin _ (by decide +kernel)) entry_typeCall ?_
  show wpAny _ _ (checkBuiltinCall "type.__call__" ⟨[.ref C], [(f, v)]⟩) _ _ _
  refine check_type_callK hC (type_call_ownK F hT hC hi hb ?_)
  refine codeAny_mono hq fun r s' z => ?_
  rcases r with e | (v | _ | _ | _) <;> exact z
end
end PySem.HandSPX
namespace DL
open PySem PySem.Spec PyProof.Rows L2
section
variable {X : Cx} {pins : List (Addr × Obj)} {σ : St} {H1 : Hp} {f : Str} {C fI : Addr} {tl : List Value} {nid iid B : String} {fd : FuncData} {sf : Str} {c : Nat}
theorem exH_ok {P : Program} {w : World} {K : Fr} {H : Hp} {h : Heap} {a : Addr} {d : Option Addr} {oe : Obj} {vs : Array Value} (e : h.get? a = some oe) (z : L2N.Zn (.ref (He.ga K (clsNm c))) d oe) (hd : oe.data = .fields vs) : ObjOk P w H h a (ExH K c d a) :=
  ⟨⟨oe, vs, e, z, hd⟩, ⟨oe, e⟩, fun _ _ ⟨o, v, q, r⟩ k => ⟨o, v, k o q, r⟩⟩
/-- what makes an exception gives it as a value -/
theorem mk_val {u : Value} {s' : Shared} {Q : VK} (h : L2N.MkP X pins σ (fun cls d H' => cls = .ref (He.ga X.K (clsNm c)) ∧ ∀ a, H' a = none → Q (.ref a) (upd H' a (ExH X.K c d a))) u s') : EP X pins σ Q u s' := by
  obtain ⟨a, oe, vs, sI, H', cls, d, rfl, J, k, hne, ha, hz, hd, h1, na, os, ag, r, rfl, q⟩ := h
  obtain ⟨hp, g, dr, t, os'⟩ := s'
  have J2 := J.call (h' := hp) (g' := g) (t' := t) (d' := dr) (ch := []) (Un.laidN k hne na) (J.hok.laidN k na (exH_ok ha hz hd)) ag (fun _ z => nomatch z)
  obtain rfl : os' = sI.os := os
  exact ⟨.ref a, _, J2, rfl, q a na⟩
end
end DL
set_option Elab.async false
set_option linter.all false
set_option maxRecDepth 100000
set_option maxHeartbeats 4000000
namespace DL
open PySem PySem.Spec PyProof.Rows L2
def gFld (cs : List Nat) (i : Nat) (o : EX) : GX := fun v ρ μ => (o ρ μ).sbind ρ fun x μ => setFld cs i x v ρ μ
def splitN (a b : List Nat) : List (List Nat) := (Txt.split (sV a) (sV b)).map fun s => s.cps.toList
def splitT (a b : List Nat) : Bool := decide (a.length + 2 ≤ 16777216) && (decide (b ≠ []) && ((splitN a b).all (fun s => decide (s.length ≤ LIM)) && decide ((splitN a b).length ≤ LIM)))
def splitD : G2 := fun x y μ => match x, y with
  | .d (.str a), .d (.str b) => if splitT a b = true then .ok (.d (.lst ((splitN a b).map .str))) μ else .stuck
  | _, _ => .stuck
def eCallO (c n : Nat) (g : Gn) (a : EX) (as : EXs) : EX := fun ρ μ => (a ρ μ).bind fun x μ => if insC x μ = some c then (as ρ μ).bind fun xs μ => if xs.length = n ∧ insC x μ = some c then g (x :: xs) μ else .stuck else .stuck
end DL
namespace DL
open PySem PySem.Spec PyProof.Rows L2
def frzD (v : DV) (μ : List Cel) : Out DV := match v with
  | .d x => .ok (.d x) μ
  | .c j => (match μ[j]? with
    | some (.lst ds) => .ok (.d (.lst ds)) (μ.set j .dead)
    | _ => .stuck)
  | .f _ _ _ _ _ _ => .stuck
/-- the same of an instance -/
def frzI (v : DV) (μ : List Cel) : Out DV := match v with
  | .c j => (match μ[j]? with
    | some (.ins c fs) => (match datF fs with
      | some gs => .ok (.d (.ins c gs)) (μ.set j .dead)
      | none => .stuck)
    | _ => .stuck)
  | _ => .stuck
def eFrzI (x : EX) : EX := fun ρ μ => (x ρ μ).bind frzI
@[simp] theorem we_frzI {j : Nat} {Q : DV → List Cel → Prop} {X : Exn → List Cel → Prop} {μ : List Cel} : WE (frzI (.c j) μ) Q X = ∃ c fs gs, μ[j]? = some (.ins c fs) ∧ datF fs = some gs ∧ Q (.d (.ins c gs)) (μ.set j .dead) := by
  unfold frzI
  cases h : μ[j]? with
  | none => simp [h]
  | some c =>
    cases c with
    | ins c fs =>
      cases e : datF fs with
      | none =>
        simp only [h, e, we_stuck, eq_iff_iff, false_iff]
        rintro ⟨c2, fs2, gs, e1, e2, _⟩
        cases e1
        rw [e] at e2
        cases e2
      | some gs =>
        simp only [h, e, we_ok, eq_iff_iff]
        constructor
        · exact fun z => ⟨c, fs, gs, rfl, e, z⟩
        · rintro ⟨c2, fs2, gs2, e1, e2, z⟩
          cases e1
          rw [e] at e2
          cases e2
          exact z
    | _ => simp [h]
@[simp] theorem we_eFrzI {a : EX} {Q : DV → List Cel → Prop} {X : Exn → List Cel → Prop} {ρ : Rho} {μ : List Cel} : WE (eFrzI a ρ μ) Q X = WE (a ρ μ) (fun v μ => WE (frzI v μ) Q X) X := we_bind
def eFrz (x : EX) : EX := fun ρ μ => (x ρ μ).bind frzD
section
variable {Q : DV → List Cel → Prop} {X : Exn → List Cel → Prop} {ρ : Rho} {μ : List Cel} {a b : EX} {x y : DV}
@[simp] theorem we_frz : WE (eFrz a ρ μ) Q X = WE (a ρ μ) (fun v μ => WE (frzD v μ) Q X) X := we_bind
@[simp] theorem we_frzD {d : Dat} : WE (frzD (.d d) μ) Q X = Q (.d d) μ := rfl
@[simp] theorem we_frzC {j : Nat} : WE (frzD (.c j) μ) Q X = ∃ ds, μ[j]? = some (.lst ds) ∧ Q (.d (.lst ds)) (μ.set j .dead) := by
  unfold frzD
  cases h : μ[j]? with
  | none => simp [h]
  | some c => cases c <;> simp [h]
@[simp] theorem we_split {s t : List Nat} : WE (splitD (.d (.str s)) (.d (.str t)) μ) Q X = (splitT s t = true ∧ Q (.d (.lst ((splitN s t).map .str))) μ) := we_ite
@[simp] theorem we_callO {c n : Nat} {g : Gn} {as : EXs} : WE (eCallO c n g a as ρ μ) Q X = WE (a ρ μ) (fun x μ => insC x μ = some c ∧ WE (as ρ μ) (fun xs μ => (xs.length = n ∧ insC x μ = some c) ∧ WE (g (x :: xs) μ) Q X) X) X := by
  unfold eCallO
  rw [we_bind]
  congr 1
  funext x μ
  by_cases h : insC x μ = some c
  · simp only [h, if_true, true_and, we_bind]
    congr 1
    funext xs μ
    by_cases h2 : xs.length = n ∧ insC x μ = some c
    · simp [h2]
    · rw [if_neg h2]
      simp only [we_stuck, eq_iff_iff, false_iff]
      exact fun q => h2 q.1
  · simp [h]
end
section
variable {N : Rho → List Cel → Prop} {R : DV → List Cel → Prop} {X : Exn → Rho → List Cel → Prop} {ρ : Rho} {μ : List Cel} {o : EX}
@[simp] theorem ws_gFld {cs : List Nat} {i : Nat} {v : DV} : WS (gFld cs i o v ρ μ) N R X = WE (o ρ μ) (fun x μ => WS (setFld cs i x v ρ μ) N R X) (fun x μ => X x ρ μ) := ws_sbind
end
end DL
set_option Elab.async false
set_option linter.all false
set_option maxRecDepth 100000
set_option maxHeartbeats 4000000
namespace DL
open PySem PySem.Spec PyProof.Rows L2
abbrev ncB (P : Program) (w : World) (K : Fr) (mg : Str → Option Value) (base : Heap) (N : List Str) (nf : NdefX.NF) (f : Addr) (A : Around) (outer : List Env) (s : Shared) (H : Hp) (E : XK) : Cx := NdefX.ncx (L2N.CX P w) P w K mg base N nf f A outer s H E
/-- the condition of the inner def's body -/
def CloBody (P : Program) (w : World) (K : Fr) (mg : Str → Option Value) (base : Heap) (k : Nat) (N : List Str) (name qual : Str) (params : Arguments) (body : List Stmt) (scope : Scope) (b : SX) : Prop :=
  ∀ (cl : List (Str × Addr)) (c' f : Addr) (A : Around) (outer : List Env) (s : Shared) (H : Hp) (E : XK), RoomG k (ncB P w K mg base N ⟨name, qual, params, body, scope, cl, c'⟩ f A outer s H E).A →
    DSs (ncB P w K mg base N ⟨name, qual, params, body, scope, cl, c'⟩ f A outer s H E) (WB E) body b
/-- what the inner def computes: the captured values behind its arguments -/
def cloG (N : Nat) (b : SX) (cs : List DV) : Gn := fun ds μ => fin true μ.length (b (rho0 N (ds ++ cs)) μ)
theorem repVs_snoc {K : Fr} {F : Hp} {α : List Addr} {ds es : List DV} {xs ys : List V} (h : RepVs K F α ds xs) (t : RepVs K F α es ys) : RepVs K F α (ds ++ es) (xs ++ ys) := repVs_app h t
theorem startF_some {N : List Str} (vs us : List V) : NdefX.startF N vs (us.map some) = L2.start N (vs ++ us) := by
  unfold NdefX.startF L2.start
  rw [List.map_append, List.append_assoc, List.length_append, List.length_map, Nat.sub_sub]
/-- the callable v0 at any later state of the context -/
def CloX (X : Cx) (W : WX) (v0 : DV) (np : Nat) (G : Gn) : Prop :=
  ∀ (pins : List (Addr × Obj)) (σ : St) (H : Hp) (s : Shared) (u : V) (us : List Value) (vs : List V) (Q : VK) (F : Hp) (α : List Addr) (μ : List Cel) (ds : List DV), Inv X pins σ H s → Mem X.K F H α μ → RepV X.K F α v0 u → Vals vs us → vs.length = np → RepVs X.K F α ds vs →
    OutOk (RV X.K) X.K F α (G ds μ) Q (fun cls dx H' => W cls dx σ H') → ∃ a, u = .ref a ∧ PySem.W.FnAt a s.heap ∧ wpAny (model X.prog X.w) X.A (call (.ref a) us) (EP X pins σ Q) X.xe s
/-- a body that calls what it is handed: v0 the function, G what it computes -/
def BodyOkF (P : Program) (w : World) (K : Fr) (mg : Str → Option Value) (base : Heap) (k : Nat) (N : List Str) (qual : Str) (scope : Scope) (f : Addr) (body : List Stmt) (np : Nat) (b : DV → Gn → SX) : Prop :=
  ∀ (cd : Value) (A : Around) (outer : List Env) (s : Shared) (H : Hp) (E : XK) (v0 : DV) (G : Gn), RoomG k (cxB P w K mg base N qual scope f cd A outer s H E).A →
    (∀ (pins : List (Addr × Obj)) (σ : St) (H' : Hp) (s' : Shared) (F : Hp) (α : List Addr) (μ : List Cel) (u : V), Inv (cxB P w K mg base N qual scope f cd A outer s H E) pins σ H' s' → Mem K F H' α μ → RepV K F α v0 u → ∃ a, u = .ref a ∧ PySem.W.FnAt a s'.heap) →
    CloX (cxB P w K mg base N qual scope f cd A outer s H E) (WB E) v0 np G → DSs (cxB P w K mg base N qual scope f cd A outer s H E) (WB E) body (b v0 G)
theorem BodyOkF.mono {P : Program} {w : World} {K : Fr} {mg : Str → Option Value} {base : Heap} {j k : Nat} {N : List Str} {qual : Str} {scope : Scope} {f : Addr} {body : List Stmt} {np : Nat} {b : DV → Gn → SX} (h : BodyOkF P w K mg base j N qual scope f body np b) (hjk : j ≤ k) : BodyOkF P w K mg base k N qual scope f body np b :=
  fun cd A outer s H E v0 G hr => h cd A outer s H E v0 G (hr.mono hjk)
theorem CloBody.mono {P : Program} {w : World} {K : Fr} {mg : Str → Option Value} {base : Heap} {j k : Nat} {N : List Str} {name qual : Str} {params : Arguments} {body : List Stmt} {scope : Scope} {b : SX} (h : CloBody P w K mg base j N name qual params body scope b) (hjk : j ≤ k) : CloBody P w K mg base k N name qual params body scope b :=
  fun cl c' f A outer s H E hr => h cl c' f A outer s H E (hr.mono hjk)
end DL
set_option Elab.async false
set_option linter.all false
set_option maxRecDepth 100000
set_option maxHeartbeats 4000000
namespace DL
open PySem PySem.Spec PyProof.Rows L2
theorem at_any {α : Type} {M : Model} {A : Around} {c : Code} {t : Sem α} {Q : α → Shared → Prop} {E : Value → Shared → Prop} {s : Shared} (h : wpAny M A t Q E s) : PySem.wpAt M A c t Q E s := fun Γ p _ i => h Γ p i
structure DSsA (X : Cx) (W : WX) (c : Code) (st : List Stmt) (g : SX) : Prop where
  run : ∀ (pins : List (Addr × Obj)) (s : Shared) (σ : St) (H : Hp) (D : Ends), Inv X pins σ H s → tS X.K W g D σ H → PySem.wpAt (model X.prog X.w) X.A c (execs st X.env) (SP X pins D) X.xe s
structure DSA (X : Cx) (W : WX) (c : Code) (st : Stmt) (g : SX) : Prop where
  run : ∀ (pins : List (Addr × Obj)) (s : Shared) (σ : St) (H : Hp) (D : Ends), Inv X pins σ H s → tS X.K W g D σ H → PySem.wpAt (model X.prog X.w) X.A c (exec st X.env) (SP X pins D) X.xe s
structure DEA (X : Cx) (W : WX) (c : Code) (e : Expr) (x : EX) : Prop where
  run : ∀ (pins : List (Addr × Obj)) (s : Shared) (σ : St) (H : Hp) (Q : VK), Inv X pins σ H s → tD X.K W x σ H Q → PySem.wpAt (model X.prog X.w) X.A c (eval e X.env) (EP X pins σ Q) X.xe s
section
variable {X : Cx} {W : WX} {c : Code} {st : Stmt} {sts : List Stmt} {g g' : SX} {e : Expr} {x : EX} {pos : Pos}
theorem DSsA.of (h : DSs X W sts g) : DSsA X W c sts g := ⟨fun pins s σ H D I q => at_any (h.pss.run pins s σ H D I q)⟩
theorem DSA.of (h : DS X W st g) : DSA X W c st g := ⟨fun pins s σ H D I q => at_any (h.ps.run pins s σ H D I q)⟩
theorem DEA.of (h : DE X W e x) : DEA X W c e x := ⟨fun pins s σ H D I q => at_any (h.pe.run pins s σ H D I q)⟩
end
/-- what a body must have to say super() -/
structure SupX (X : Cx) (kD : Nat) (body : List Stmt) (iC : Nat) : Prop where
  sup : X.env.kindOf "super" = some .globalImplicit
  cls : X.env.kindOf "__class__" = some .free
  mg : X.mg "super" = none
  fn : ∃ f fd oc od osl ar c vs file tf o2 od2 sl2, X.env.func = some f ∧ X.K.lookup f = some ⟨oc, od, .func fd, osl⟩ ∧ (fd.params.posonlyargs ++ fd.params.args).head? = some ar ∧ X.N[0]? = some ar.arg ∧ Vis X.env.scope ar.arg ∧
    (ar.arg == ("__debug__" : Str)) = false ∧ (ar.arg == ("__classdict__" : Str)) = false ∧ X.env.code = .ref c ∧ X.K.lookup c = some ⟨o2, od2, .fields vs, sl2⟩ ∧ vs[2]? = some (.str file tf) ∧ (X.prog.main.file == file) = true
  nm : (X.prog.main.scope.names.lookup ("super" : Str)).isSome = false
  nC : X.N[iC]? = some "__class__"
  vC : Vis X.env.scope "__class__"
  cd : ∃ cd, PySem.W.clsIn X.K (He.ga X.K (clsNm kD)) = some cd
  th : PySem.W.nsIn X.K cStatics "thirdparty.any" = some none
structure FunS (K : Fr) (kD : Nat) (file : Str) (name qual : Str) (params : Arguments) (body : List Stmt) (scope : Scope) (f : Addr) : Prop where
  ex : ∃ oc od dV kV doc pm an c ct osl cc cl co csl o2 od2 sl2 vs tf, K.lookup f = some ⟨oc, od, .func (PySem.W.fnX name qual params body scope [("__class__", cc)] dV kV doc pm an (.ref c) ct), osl⟩ ∧ PySem.W.codeIn K (.ref c) qual = true ∧ K.lookup cc = some ⟨cl, co, .cell (some (.ref (He.ga K (clsNm kD)))), csl⟩ ∧
    K.lookup c = some ⟨o2, od2, .fields vs, sl2⟩ ∧ vs[2]? = some (.str file tf) ∧ dV = Value.none
  kp : PySem.W.keepIn K (.ref f) = true
def SupBody (P : Program) (w : World) (K : Fr) (mg : Str → Option Value) (base : Heap) (k kD iC : Nat) (N : List Str) (name qual : Str) (params : Arguments) (body : List Stmt) (scope : Scope) (f : Addr) (b : SX) : Prop :=
  ∀ (cc c : Addr) (A : Around) (outer : List Env) (s : Shared) (H : Hp) (E : XK), RoomG k (ncB P w K mg base N ⟨name, qual, params, body, scope, [("__class__", cc)], c⟩ f A outer s H E).A → SupX (ncB P w K mg base N ⟨name, qual, params, body, scope, [("__class__", cc)], c⟩ f A outer s H E) kD body iC →
    DSsA (ncB P w K mg base N ⟨name, qual, params, body, scope, [("__class__", cc)], c⟩ f A outer s H E) (WB E) (Code.func body (ncB P w K mg base N ⟨name, qual, params, body, scope, [("__class__", cc)], c⟩ f A outer s H E).env) body b
theorem CD.sup {P : Program} {w : World} {K : Fr} {mg : Str → Option Value} {base : Heap} {k kD iC : Nat} {N ps : List Str} {file name qual : Str} {params : Arguments} {body : List Stmt} {scope : Scope} {f : Addr} {b : SX} {ar : Arg} (FS : FunS K kD file name qual params body scope f) (hS : NdefX.NScope N ps ["__class__"] scope)
    (hB : SupBody P w K mg base k kD iC N name qual params body scope f b)
    (hbind : ∀ (kV doc pm : Value) (an : Option Addr) (cc c : Addr) (ct : Value) (us : List Value), us.length = ps.length → bindArgs (PySem.W.fnX name qual params body scope [("__class__", cc)] .none kV doc pm an (.ref c) ct) ⟨us, []⟩ = pure (ps.zip us))
    (hP : (P.main.file == file) = true) (hP2 : (P.main.scope.names.lookup ("super" : Str)).isSome = false) (hg : mg "super" = none) (hcd : ∃ cd, PySem.W.clsIn K (He.ga K (clsNm kD)) = some cd) (hth : PySem.W.nsIn K cStatics "thirdparty.any" = some none)
    (hk : scope.names.lookup ("super" : Str) = some .globalImplicit) (har : (params.posonlyargs ++ params.args).head? = some ar) (h0 : N[0]? = some ar.arg) (hv0 : scope.names.lookup ar.arg = some .local) (hd : (ar.arg == ("__debug__" : Str)) = false) (hd2 : (ar.arg == ("__classdict__" : Str)) = false)
    (hiC : N[iC]? = some "__class__") : CD P w K mg base (k + 1) (.ref f) ps.length [] (cloG N.length b [.d (.cls kD)]) := by
  intro A outer s H us ws vs zs Q E F α μ ds hr e0 rv rz l1 l2 m rd o
  obtain rfl : zs = [] := List.length_eq_zero_iff.mp l2
  cases rz
  rw [List.append_nil] at rd
  obtain ⟨oc, od, dV, kV, doc, pm, an, c, ct, osl, cc, cl, co, csl, o2, od2, sl2, vv, tf, lk, hcd2, lcc, lc, hv2, rfl⟩ := FS.ex
  have KX : K.In s.heap := e0.mod.kin.keeps fun b o e => (e0.bs b o e).1
  have hlim : s.heap.NoLimit := e0.mod.nolimit.keeps fun b o e => (e0.bs b o e).1
  have hvl : us.length = ps.length := rv.length.symm.trans l1
  have hfree : scope.names.lookup ("__class__" : Str) = some .free := hS.frk _ (by simp)
  refine ks_codeAny_call_defAt hr.r.depth (KX _ _ lk) rfl hlim (PySem.W.codeRec_of KX hcd2) rfl (binds := ps.zip us) ?_ hS.nocell (fun y hy => hS.par y.1 (List.of_mem_zip hy).1) (fun h1 n1 kp => ?_) hS.co hS.gen hS.kind
  · intro M A2 E2 Q2 q
    show wpAny M A2 (bindArgs _ ⟨us, [].zip []⟩) Q2 E2 s
    rw [show ([] : List Str).zip ([] : List Value) = [] from rfl, hbind kV doc pm an cc c ct us hvl]
    exact wpAny_pure q
  have C : NdefX.CellsAt [("__class__", cc)] ["__class__"] [some (V.ref (He.ga K (clsNm kD)))] s.heap H := by
    have only : ∀ {y : Str} {a : Addr}, List.lookup y [(("__class__" : Str), cc)] = some a → y = "__class__" ∧ a = cc := by
      intro y a e
      rw [List.lookup_cons] at e
      split at e
      · rename_i h
        exact ⟨eq_of_beq h, (Option.some.inj e).symm⟩
      · cases e
    refine ⟨rfl, fun y a e => ?_, fun x y a e1 e2 => (only e1).1.trans (only e2).1.symm, fun i y e => ?_⟩
    · rw [(only e).2]
      exact ⟨(e0.bs _ _ (e0.mod.kin _ _ lcc)).2, _, _, KX _ _ lcc, rfl⟩
    · match i, e with
      | 0, e =>
        cases e
        refine ⟨cc, by simp [List.lookup], fun v e => ?_⟩
        cases e
        exact ⟨_, rfl, _, KX _ _ lcc, rfl⟩
  have st : Inv (ncB P w K mg base N ⟨name, qual, params, body, scope, [("__class__", cc)], c⟩ f A outer s H E) [] (NdefX.startF N vs [some (V.ref (He.ga K (clsNm kD)))]) H { s with heap := h1, toks := s.toks + (ps.zip us).length } :=
    NdefX.inv_startN hS hr.r.hd e0 l1 rv C n1 kp
  have sl : Slots K F α (rho0 N.length (ds ++ [.d (.cls kD)])) (NdefX.startF N vs [some (V.ref (He.ga K (clsNm kD)))]) := by
    rw [show [some (V.ref (He.ga K (clsNm kD)))] = [V.ref (He.ga K (clsNm kD))].map some from rfl, startF_some]
    exact slots0 (repVs_snoc rd ⟨_, [], rfl, rfl, rfl⟩)
  have SX0 : SupX (ncB P w K mg base N ⟨name, qual, params, body, scope, [("__class__", cc)], c⟩ f A outer s H E) kD body iC :=
    ⟨hk, hfree, hg, ⟨f, _, oc, od, osl, ar, c, vv, file, tf, o2, od2, sl2, rfl, lk, har, h0, .inl hv0, hd, hd2, rfl, lc, hv2, hP⟩, hP2, hiC, .inr (.inr hfree), hcd, hth⟩
  have D := hB cc c A outer s H E (hr.deeper _) SX0
  refine ks_wpAt_mono (D.run [] _ _ H { nx := fun _ H' => Q .non H', rt := Q } st ⟨F, α, _, μ, m, sl, fin_ok (frz := true) m o⟩) (fun fl s' hs => ?_) fun er s' hs => hs
  match fl, hs with
  | .ret u, ⟨v, σ', H', J, r, q⟩ => exact ⟨v, H', J.os, J.bare, J.base, J.hok, r, q⟩
  | .next, ⟨σ', H', J, q⟩ => exact ⟨V.non, H', J.os, J.bare, J.base, J.hok, rfl, q⟩
  | .brk, ⟨_, _, _, q⟩ => exact q.elim
  | .cont, ⟨_, _, _, q⟩ => exact q.elim
end DL
set_option Elab.async false
set_option linter.all false
set_option maxRecDepth 100000
set_option maxHeartbeats 4000000
namespace DL
open PySem PySem.Spec PyProof.Rows L2
end DL
set_option Elab.async false
set_option linter.all false
set_option maxRecDepth 100000
set_option maxHeartbeats 4000000
namespace DL
open PySem PySem.Spec PyProof.Rows L2
def tTruL (c : Nat) (g : Gn) (a : EX) : TX := fun ρ μ => (a ρ μ).bind fun x μ => if insC x μ = some c then (noR (g [x] μ)).bind fun v μ => (match v with
  | .d (.int n) => if 0 ≤ n ∧ n < 2 ^ 63 then .ok (n != 0) μ else .stuck
  | _ => .stuck) else .stuck
section
variable {Q : Bool → List Cel → Prop} {X : Exn → List Cel → Prop} {ρ : Rho} {μ : List Cel} {c : Nat} {g : Gn} {a : EX}
@[simp] theorem we_tTruL : WE (tTruL c g a ρ μ) Q X = WE (a ρ μ) (fun x μ => insC x μ = some c ∧ WE (g [x] μ) (fun v μ => ∃ n, v = .d (.int n) ∧ (0 ≤ n ∧ n < 2 ^ 63) ∧ Q (n != 0) μ) X0) X := by
  unfold tTruL
  rw [we_bind]
  congr 1
  funext x μ
  by_cases h : insC x μ = some c
  · simp only [h, if_true, true_and, we_bind, we_noR]
    congr 1
    funext v μ
    cases v with
    | c k => simp
    | f _ _ _ _ _ _ => simp
    | d x =>
      cases x with
      | int i =>
        show WE (if 0 ≤ i ∧ i < 2 ^ 63 then Out.ok (i != 0) μ else Out.stuck) Q X = _
        by_cases hn : 0 ≤ i ∧ i < 2 ^ 63
        · rw [if_pos hn]
          exact propext ⟨fun q => ⟨i, rfl, hn, q⟩, fun ⟨n, e, _, q⟩ => by cases e; exact q⟩
        · rw [if_neg hn]
          exact propext ⟨fun q => q.elim, fun ⟨n, e, q1, _⟩ => by cases e; exact absurd q1 hn⟩
      | _ => simp
  · simp [h]
end
end DL
set_option Elab.async false
set_option linter.all false
set_option maxRecDepth 100000
set_option maxHeartbeats 4000000
namespace DL
open PySem PySem.Spec PyProof.Rows L2
def nbolG (o : Out DV) : Out DV := o.bind fun v μ => match v with
  | .d (.bl b) => okD (.bl (!b)) μ
  | _ => .stuck
def notInOwnG (c : Nat) (g : Gn) : G2 := fun x y μ => if insC y μ = some c then nbolG (noR (g [y, x] μ)) else .stuck
@[simp] theorem we_notInOwn {Q : DV → List Cel → Prop} {X : Exn → List Cel → Prop} {c : Nat} {g : Gn} {x y : DV} {μ : List Cel} : WE (notInOwnG c g x y μ) Q X = (insC y μ = some c ∧ WE (g [y, x] μ) (fun v μ => ∃ b, v = .d (.bl b) ∧ Q (.d (.bl (!b))) μ) X0) := by
  unfold notInOwnG
  by_cases h : insC y μ = some c
  · simp only [h, if_true, true_and, nbolG, we_bind, we_noR]
    congr 1
    funext v μ
    cases v with
    | c n => simp
    | f _ _ _ _ _ _ => simp
    | d x => cases x <;> simp
  · simp [h]
def boolLG (c : Nat) (g : Gn) : G1 := fun x μ => if insC x μ = some c then (noR (g [x] μ)).bind fun v μ => (match v with
  | .d (.int n) => if 0 ≤ n ∧ n < 2 ^ 63 then okD (.bl (n != 0)) μ else .stuck
  | _ => .stuck) else .stuck
section
variable {X : Cx} {W : WX} {pos p : Pos} {e : Expr} {x : EX} {c k : Nat} {f : Addr} {g : Gn}
@[simp] theorem we_boolL {Q : DV → List Cel → Prop} {X : Exn → List Cel → Prop} {c : Nat} {g : Gn} {x : DV} {μ : List Cel} : WE (boolLG c g x μ) Q X = (insC x μ = some c ∧ WE (g [x] μ) (fun v μ => ∃ n, v = .d (.int n) ∧ (0 ≤ n ∧ n < 2 ^ 63) ∧ Q (.d (.bl (n != 0))) μ) X0) := by
  unfold boolLG
  by_cases h : insC x μ = some c
  · simp only [h, if_true, true_and, we_bind, we_noR]
    congr 1
    funext v μ
    cases v with
    | c k => simp
    | f _ _ _ _ _ _ => simp
    | d x =>
      cases x with
      | int i =>
        show WE (if 0 ≤ i ∧ i < 2 ^ 63 then okD (.bl (i != 0)) μ else Out.stuck) Q X = _
        by_cases hn : 0 ≤ i ∧ i < 2 ^ 63
        · rw [if_pos hn]
          exact propext ⟨fun q => ⟨i, rfl, hn, q⟩, fun ⟨n, e, _, q⟩ => by cases e; exact q⟩
        · rw [if_neg hn]
          exact propext ⟨fun q => q.elim, fun ⟨n, e, q1, _⟩ => by cases e; exact absurd q1 hn⟩
      | _ => simp
  · simp [h]
end
@[simp] theorem lkT_NoneType : List.lookup "NoneType" [("NoneType", false), ("bool", false), ("int", false), ("str", false), ("tuple", true), ("list", false), ("dict", false)] = some false := by rfl
@[simp] theorem lkT_bool : List.lookup "bool" [("NoneType", false), ("bool", false), ("int", false), ("str", false), ("tuple", true), ("list", false), ("dict", false)] = some false := by rfl
@[simp] theorem lkT_int : List.lookup "int" [("NoneType", false), ("bool", false), ("int", false), ("str", false), ("tuple", true), ("list", false), ("dict", false)] = some false := by rfl
@[simp] theorem lkT_str : List.lookup "str" [("NoneType", false), ("bool", false), ("int", false), ("str", false), ("tuple", true), ("list", false), ("dict", false)] = some false := by rfl
@[simp] theorem lkT_tuple : List.lookup "tuple" [("NoneType", false), ("bool", false), ("int", false), ("str", false), ("tuple", true), ("list", false), ("dict", false)] = some true := by rfl
@[simp] theorem lkT_list : List.lookup "list" [("NoneType", false), ("bool", false), ("int", false), ("str", false), ("tuple", true), ("list", false), ("dict", false)] = some false := by rfl
@[simp] theorem lkT_dict : List.lookup "dict" [("NoneType", false), ("bool", false), ("int", false), ("str", false), ("tuple", true), ("list", false), ("dict", false)] = some false := by rfl
@[simp] theorem lkT_ins : List.lookup 24 [(24, false)] = some false := by rfl
end DL
set_option Elab.async false
set_option linter.all false
set_option maxRecDepth 100000
set_option maxHeartbeats 4000000
namespace DL
open PySem PySem.Spec PyProof.Rows L2
end DL
set_option Elab.async false
set_option linter.all false
set_option maxRecDepth 100000
set_option maxHeartbeats 4000000
namespace DL
open PySem PySem.Spec PyProof.Rows L2
def isB : G2 := fun x y μ => match x, y with
  | .d (.bl a), .d (.bl b) => okD (.bl (decide (a = b))) μ
  | _, _ => .stuck
@[simp] theorem we_isB {a b : Bool} {μ : List Cel} {Q : DV → List Cel → Prop} {X : Exn → List Cel → Prop} : WE (isB (.d (.bl a)) (.d (.bl b)) μ) Q X = Q (.d (.bl (decide (a = b)))) μ := rfl
def boolBG (c : Nat) (g : Gn) : G1 := fun x μ => if insC x μ = some c then (noR (g [x] μ)).bind fun v μ => (match v with
  | .d (.bl b) => okD (.bl b) μ
  | _ => .stuck) else .stuck
@[simp] theorem we_boolB {Q : DV → List Cel → Prop} {X : Exn → List Cel → Prop} {c : Nat} {g : Gn} {x : DV} {μ : List Cel} : WE (boolBG c g x μ) Q X = (insC x μ = some c ∧ WE (g [x] μ) (fun v μ => ∃ b, v = .d (.bl b) ∧ Q (.d (.bl b)) μ) X0) := by
  unfold boolBG
  by_cases h : insC x μ = some c
  · simp only [h, if_true, true_and, we_bind, we_noR]
    congr 1
    funext v μ
    cases v with
    | c n => simp
    | f _ _ _ _ _ _ => simp
    | d x => cases x <;> simp
  · simp [h]
end DL
set_option Elab.async false
set_option linter.all false
set_option maxRecDepth 100000
set_option maxHeartbeats 4000000
namespace DL
open PySem PySem.Spec PyProof.Rows L2
end DL
set_option Elab.async false
set_option linter.all false
set_option maxRecDepth 100000
set_option maxHeartbeats 4000000
namespace DL
open PySem PySem.Spec PyProof.Rows L2
def sRaC (c : Nat) : SX := fun ρ μ => .raise ⟨c, []⟩ ρ μ
/-- what is known of an exception class without an __init__ of its own -/
structure XBare (K : Fr) (mg : Str → Option Value) (b c : Nat) : Prop where
  x : PySem.W.excIn K (He.ga K (clsNm c)) (xTl b) (xNew b) = true
  l : ∃ od cd sl, K.lookup (He.ga K (clsNm c)) = some ⟨.type "type", od, .cls cd, sl⟩
  m : PySem.W.mroIn K (He.ga K (clsNm c)) (.ref (He.ga K (clsNm c))) = some true
  s : PySem.W.subIn K (.ref (He.ga K (clsNm c))) (.type "BaseException") = some true
  t : PySem.W.typeIn K (.ref (He.ga K (clsNm c))) = some (.type "type")
  g : mg (clsNm c) = some (.ref (He.ga K (clsNm c)))
theorem xbB_ok {K : Fr} {mg : Str → Option Value} {b c : Nat} (h : xbB K b c = true) (g : mg (clsNm c) = some (.ref (He.ga K (clsNm c)))) : XBare K mg b c := by
  obtain ⟨h1, h⟩ := He.ba h
  obtain ⟨h2, h⟩ := He.ba h
  obtain ⟨h3, h⟩ := He.ba h
  obtain ⟨h4, h5⟩ := He.ba h
  refine ⟨h1, ?_, of_decide_eq_true h3, of_decide_eq_true h4, of_decide_eq_true h5, g⟩
  split at h2
  · rename_i t od cd sl e
    obtain rfl := of_decide_eq_true h2
    exact ⟨_, _, _, e⟩
  · exact absurd h2 (by decide)
@[simp] theorem ws_raC {c : Nat} {ρ : Rho} {μ : List Cel} {N : Rho → List Cel → Prop} {R : DV → List Cel → Prop} {Z : Exn → Rho → List Cel → Prop} : WS (sRaC c ρ μ) N R Z = Z ⟨c, []⟩ ρ μ := rfl
end DL
set_option Elab.async false
set_option linter.all false
set_option maxRecDepth 100000
set_option maxHeartbeats 4000000
namespace DL
open PySem PySem.Spec PyProof.Rows L2
section
variable {X : Cx} {pins : List (Addr × Obj)} {σ : St} {H1 : Hp} {f : Str} {C fI : Addr} {tl : List Value} {nid iid B : String} {fd : FuncData} {sf : Str} {s1 : Shared} {u : Value} {v : V} {Q : XK}
theorem call_xcP (T : XcC X.K C tl nid) (FB : ExcBaseFacts B nid iid tl) (iC : PySem.W.findIn X.K (.ref C) "__init__" = some (some (.ref fI))) (tI : PySem.W.typeIn X.K (.ref fI) = some (.type "function"))
    (F1 : FnOk X.prog X.w X.K X.mg X.base (L2N.CX X.prog X.w) 1 fI fd [sf, f] (spX C f)) (hb : Binds X.K fd [sf, f] []) (hr : Room 2 X.A) (I1 : Inv X pins σ H1 s1) (ru : RelV v u)
    (q1 : ∀ d, H1 d = none → Q (.ref C) (some d) (upd H1 d (.xd [(f, v)]))) : wpAny (model X.prog X.w) X.A (call (.ref C) [u]) (L2N.MkP X pins σ Q) X.xe s1 := by
  obtain ⟨nm, N, qn, bs, bm, hdct, sn, sub, ab, col, dd, k0, k1, k2, k3, k5, hC, hcont⟩ := PySem.W.excInit_of I1.kIn T.cls
  obtain ⟨hp, g, dr, tk, os⟩ := s1
  have lt : hp.objs.size ≤ hp.objs.size + 1 := Nat.le_succ _
  have n0 : H1 (hp.objs.size + 1) = none := I1.hok.fresh lt
  have kk : ∀ b o, hp.get? b = some o → ((hp.push (PySem.W.kdv_tup [u])).push (PySem.HandSPX.excO C hp.objs.size)).get? b = some o := fun b o z => Heap.get?_push_of_some _ (Heap.get?_push_of_some _ z)
  have gp : ((hp.push (PySem.W.kdv_tup [u])).push (PySem.HandSPX.excO C hp.objs.size)).get? (hp.objs.size + 1) = some (PySem.HandSPX.excO C hp.objs.size) := by heap_get
  have I2 : Inv X pins σ (upd H1 (hp.objs.size + 1) (exo (hp.objs.size + 1) C none)) ⟨(hp.push (PySem.W.kdv_tup [u])).push (PySem.HandSPX.excO C hp.objs.size), g, dr, tk, os⟩ :=
    I1.laid (t' := tk) (h' := (hp.push (PySem.W.kdv_tup [u])).push (PySem.HandSPX.excO C hp.objs.size)) kk lt (exo_ok gp)
  have r2 : Vals [V.ref (hp.objs.size + 1), v] [Value.ref (hp.objs.size + 1), u] := .cons rfl (.cons ru .nil)
  have bt := hb (⟨(hp.push (PySem.W.kdv_tup [u])).push (PySem.HandSPX.excO C hp.objs.size), g, dr, tk, os⟩ : Shared) [Value.ref (hp.objs.size + 1), u] I2.kIn rfl
  rw [List.append_nil] at bt
  have go := F1.run (X.A.under (.builtin "type.__call__" ⟨[.ref C, u], []⟩)) X.stack _ _ ⟨[Value.ref (hp.objs.size + 1), u], []⟩ [Value.ref (hp.objs.size + 1), u] [V.ref (hp.objs.size + 1), v]
    (fun y H2 => y = .non ∧ ∃ dx, H1 dx = none ∧ H2 = upd (upd (upd H1 (hp.objs.size + 1) (exo (hp.objs.size + 1) C none)) dx (exd dx [(f, v)])) (hp.objs.size + 1) (exo (hp.objs.size + 1) C (some dx)) ∧ dx ≠ hp.objs.size + 1) (fun _ _ _ => False)
    (hr.make C [u] []) (I2.env0.make C [u] []) bt r2 ⟨_, v, rfl, upd_same, fun dx n ne => ⟨rfl, dx, by rw [upd_ne ne] at n; exact n, rfl, ne⟩⟩
  refine wpAny_call (PySem.HandSPX.call_own FB hcont hC (PySem.W.looks_findIn I1.kIn iC) (fun self => PySem.W.bind_fn I1.kIn self tI) (by show 1 ≤ sizeLine; rw [sizeLine_eq]; omega) (codeAny_mono go fun r s' z => ?_))
  cases r with
  | error er =>
    obtain ⟨_, _, _, _, _, _, _, _, _, _, _, _, z⟩ := (show L2N.CX X.prog X.w _ _ _ _ er s' from z)
    exact z.elim
  | ok fl =>
    cases fl with
    | next => exact False.elim z
    | brk => exact False.elim z
    | cont => exact False.elim z
    | ret y =>
      obtain ⟨y', H2, os2, bare2, un2, hok2, ry, ey, dx, nd, e2, ne⟩ := z
      subst ey e2
      obtain ⟨h2, g2, d2, t2, os'⟩ := s'
      refine ⟨ry, mkN_end (raises_own T.sub T.ty) I1 lt kk un2 hok2 os2 bare2 upd_same (by rw [upd_ne ne, upd_same]) nd ?_⟩
      have eq : upd (del (upd (upd (upd H1 (hp.objs.size + 1) (exo (hp.objs.size + 1) C none)) dx (exd dx [(f, v)])) (hp.objs.size + 1) (exo (hp.objs.size + 1) C (some dx))) (hp.objs.size + 1)) dx (.xd [(f, v)]) = upd H1 dx (.xd [(f, v)]) := by
        funext b
        by_cases hbd : b = dx
        · subst hbd; rw [upd_same, upd_same]
        · rw [upd_ne hbd, upd_ne hbd]
          by_cases hba : b = hp.objs.size + 1
          · subst hba; rw [del_same, n0]
          · rw [del_ne hba, upd_ne hba, upd_ne hbd, upd_ne hba]
      rw [eq]
      exact q1 dx nd
theorem call_xcK (T : XcC X.K C tl nid) (FB : ExcBaseFacts B nid iid tl) (iC : PySem.W.findIn X.K (.ref C) "__init__" = some (some (.ref fI))) (tI : PySem.W.typeIn X.K (.ref fI) = some (.type "function"))
    (F1 : FnOk X.prog X.w X.K X.mg X.base (L2N.CX X.prog X.w) 1 fI fd [sf, f] (spX C f)) (hb : ∀ (s : Shared) (u0 u1 : Value), X.K.In s.heap → BindsTo s fd ⟨[u0], [(f, u1)]⟩ ([sf, f].zip [u0, u1])) (hr : Room 2 X.A) (I1 : Inv X pins σ H1 s1) (ru : RelV v u)
    (q1 : ∀ d, H1 d = none → Q (.ref C) (some d) (upd H1 d (.xd [(f, v)]))) : wpAny (model X.prog X.w) X.A (call (.ref C) [] [(f, u)]) (L2N.MkP X pins σ Q) X.xe s1 := by
  obtain ⟨nm, N, qn, bs, bm, hdct, sn, sub, ab, col, dd, k0, k1, k2, k3, k5, hC, hcont⟩ := PySem.W.excInit_of I1.kIn T.cls
  obtain ⟨hp, g, dr, tk, os⟩ := s1
  have lt : hp.objs.size ≤ hp.objs.size + 1 := Nat.le_succ _
  have n0 : H1 (hp.objs.size + 1) = none := I1.hok.fresh lt
  have kk : ∀ b o, hp.get? b = some o → ((hp.push (PySem.W.kdv_tup [])).push (PySem.HandSPX.excO C hp.objs.size)).get? b = some o := fun b o z => Heap.get?_push_of_some _ (Heap.get?_push_of_some _ z)
  have gp : ((hp.push (PySem.W.kdv_tup [])).push (PySem.HandSPX.excO C hp.objs.size)).get? (hp.objs.size + 1) = some (PySem.HandSPX.excO C hp.objs.size) := by heap_get
  have I2 : Inv X pins σ (upd H1 (hp.objs.size + 1) (exo (hp.objs.size + 1) C none)) ⟨(hp.push (PySem.W.kdv_tup [])).push (PySem.HandSPX.excO C hp.objs.size), g, dr, tk, os⟩ :=
    I1.laid (t' := tk) (h' := (hp.push (PySem.W.kdv_tup [])).push (PySem.HandSPX.excO C hp.objs.size)) kk lt (exo_ok gp)
  have r2 : Vals [V.ref (hp.objs.size + 1), v] [Value.ref (hp.objs.size + 1), u] := .cons rfl (.cons ru .nil)
  have bt := hb (⟨(hp.push (PySem.W.kdv_tup [])).push (PySem.HandSPX.excO C hp.objs.size), g, dr, tk, os⟩ : Shared) (Value.ref (hp.objs.size + 1)) u I2.kIn
  have go := F1.run (X.A.under (.builtin "type.__call__" ⟨[.ref C], [(f, u)]⟩)) X.stack _ _ ⟨[Value.ref (hp.objs.size + 1)], [(f, u)]⟩ [Value.ref (hp.objs.size + 1), u] [V.ref (hp.objs.size + 1), v]
    (fun y H2 => y = .non ∧ ∃ dx, H1 dx = none ∧ H2 = upd (upd (upd H1 (hp.objs.size + 1) (exo (hp.objs.size + 1) C none)) dx (exd dx [(f, v)])) (hp.objs.size + 1) (exo (hp.objs.size + 1) C (some dx)) ∧ dx ≠ hp.objs.size + 1) (fun _ _ _ => False)
    (hr.make C [] [(f, u)]) (I2.env0.make C [] [(f, u)]) bt r2 ⟨_, v, rfl, upd_same, fun dx n ne => ⟨rfl, dx, by rw [upd_ne ne] at n; exact n, rfl, ne⟩⟩
  refine wpAny_call (PySem.HandSPX.call_ownK FB hcont hC (PySem.W.looks_findIn I1.kIn iC) (fun self => PySem.W.bind_fn I1.kIn self tI) (codeAny_mono go fun r s' z => ?_))
  cases r with
  | error er =>
    obtain ⟨_, _, _, _, _, _, _, _, _, _, _, _, z⟩ := (show L2N.CX X.prog X.w _ _ _ _ er s' from z)
    exact z.elim
  | ok fl =>
    cases fl with
    | next => exact False.elim z
    | brk => exact False.elim z
    | cont => exact False.elim z
    | ret y =>
      obtain ⟨y', H2, os2, bare2, un2, hok2, ry, ey, dx, nd, e2, ne⟩ := z
      subst ey e2
      obtain ⟨h2, g2, d2, t2, os'⟩ := s'
      refine ⟨ry, mkN_end (raises_own T.sub T.ty) I1 lt kk un2 hok2 os2 bare2 upd_same (by rw [upd_ne ne, upd_same]) nd ?_⟩
      have eq : upd (del (upd (upd (upd H1 (hp.objs.size + 1) (exo (hp.objs.size + 1) C none)) dx (exd dx [(f, v)])) (hp.objs.size + 1) (exo (hp.objs.size + 1) C (some dx))) (hp.objs.size + 1)) dx (.xd [(f, v)]) = upd H1 dx (.xd [(f, v)]) := by
        funext b
        by_cases hbd : b = dx
        · subst hbd; rw [upd_same, upd_same]
        · rw [upd_ne hbd, upd_ne hbd]
          by_cases hba : b = hp.objs.size + 1
          · subst hba; rw [del_same, n0]
          · rw [del_ne hba, upd_ne hba, upd_ne hbd, upd_ne hba]
      rw [eq]
      exact q1 dx nd
end
/-- the exception that a call of its class gives -/
def xcG (c f : Nat) : Gn := fun ds μ => match ds with
  | [.d y] => .ok (.d (.exn c [(f, y)])) μ
  | _ => .stuck
def xbG (c : Nat) : Gn := fun ds μ => match ds with
  | [] => .ok (.d (.exn c [])) μ
  | _ => .stuck
section
variable {X : Cx} {W : WX} {b c f : Nat}
theorem exn_val {F H : Hp} {α : List Addr} {μ : List Cel} {y : Dat} {v : V} {Q : VK} {W' : XK} {K : Fr} (m : Mem K F H α μ) (r : RepV K F α (.d y) v) (o : OutOk (RV K) K F α (xcG c f [.d y] μ) Q W') {d : Addr} (nd : H d = none) {a : Addr} (na : upd H d (.xd [(fldNm f, v)]) a = none) : Q (.ref a) (upd (upd H d (.xd [(fldNm f, v)])) a (ExH K c (some d) a)) := by
  obtain ⟨m2, g2⟩ := m.laid (o := .xd [(fldNm f, v)]) nd
  obtain ⟨m3, g3⟩ := m2.laid (o := ExH K c (some d) a) na
  have ne : d ≠ a := fun z => by
    rw [← z, upd_same] at na
    cases na
  exact o (.ref a) _ α _ (g2.trans g3) m3 ⟨a, some d, rfl, ⟨.inl upd_same⟩, .inr ⟨d, [(fldNm f, v)], rfl, by rw [upd_ne ne, upd_same], v, [], rfl, Rep.le (g2.trans g3).f r, rfl⟩⟩
theorem repVs_one {K : Fr} {F : Hp} {α : List Addr} {ds : List DV} {v : V} (r : RepVs K F α ds [v]) : ∃ d, ds = [d] ∧ RepV K F α d v := by
  cases ds with
  | nil => cases r
  | cons d ds1 =>
    obtain ⟨x, r', e, h1, h2⟩ := r
    cases e
    cases ds1 with
    | nil => exact ⟨d, rfl, h1⟩
    | cons d2 ds2 =>
      obtain ⟨_, _, e2, _⟩ := h2
      cases e2
theorem callx_xc (A : XAll X.K X.mg b c f) (hr : RoomG 2 X.A) : CallX X W (.ref (He.ga X.K (clsNm c))) 1 [] (xcG c f) := by
  obtain ⟨fI, fd, sf, name, qual, params, scope, q1, q2, q3, q4, hx, F, S, hb, hm, e1, e2, e3, e4, e5⟩ := A
  obtain ⟨B, iid, FB, SF⟩ := xBase b
  intro pins σ H s us ws vs zs Q F0 α μ ds I rv rz l1 l2 m r o
  match vs, l1, zs, l2 with
  | [v], _, [], _ =>
    cases rv with
    | @cons _ u _ _ ru rn =>
    cases rn
    cases rz
    obtain ⟨d, rfl, r1⟩ := repVs_one r
    cases d with
    | c n => exact o.elim
    | f _ _ _ _ _ _ => exact o.elim
    | d y =>
      exact wpAny_mono (call_xcP (Q := fun cls dd H' => cls = .ref (He.ga X.K (clsNm c)) ∧ ∀ a, H' a = none → Q (.ref a) (upd H' a (ExH X.K c dd a))) hx.x FB hx.ini hx.fn (x_init hx.x SF hx.tk F S e2 e3 e4 e5) hb hr.r I ru (fun d nd => ⟨rfl, fun a na => exn_val m r1 o nd na⟩)) (fun u s' hu => mk_val hu) (fun _ _ x => x)
/-- .. by its parameter's name -/
def XAllK (K : Fr) (mg : Str → Option Value) (b c f : Nat) : Prop :=
  ∃ (fI : Addr) (fd : FuncData) (sf name qual : Str) (params : Arguments) (scope : Scope) (q1 q2 q3 q4 : Pos), XCls K b (He.ga K (clsNm c)) (fldNm f) fI ∧ FunD K name qual params [.Assign [.Attribute (.Name sf q1) (fldNm f) q2] (.Name (fldNm f) q3) q4] scope [] [] fI fd ∧
    FnScope [sf, fldNm f] [sf, fldNm f] scope ∧ (∀ (s : Shared) (u0 u1 : Value), K.In s.heap → BindsTo s fd ⟨[u0], [(fldNm f, u1)]⟩ ([sf, fldNm f].zip [u0, u1])) ∧ mg (clsNm c) = some (.ref (He.ga K (clsNm c))) ∧ (sf == ("__debug__" : Str)) = false ∧ (sf == ("__classdict__" : Str)) = false ∧ (fldNm f == ("__debug__" : Str)) = false ∧ (fldNm f == ("__classdict__" : Str)) = false
theorem callx_xck (A : XAllK X.K X.mg b c f) (hr : RoomG 2 X.A) {fn : Str} (hf : fn = fldNm f) : CallX X W (.ref (He.ga X.K (clsNm c))) 0 [fn] (xcG c f) := by
  subst hf
  obtain ⟨fI, fd, sf, name, qual, params, scope, q1, q2, q3, q4, hx, F, S, hb, hm, e2, e3, e4, e5⟩ := A
  obtain ⟨B, iid, FB, SF⟩ := xBase b
  intro pins σ H s us ws vs zs Q F0 α μ ds I rv rz l1 l2 m r o
  match vs, l1, zs, l2 with
  | [], _, [v], _ =>
    cases rz with
    | @cons _ u _ _ ru rn =>
    cases rn
    cases rv
    obtain ⟨d, rfl, r1⟩ := repVs_one (v := v) r
    cases d with
    | c n => exact o.elim
    | f _ _ _ _ _ _ => exact o.elim
    | d y =>
      exact wpAny_mono (call_xcK (Q := fun cls dd H' => cls = .ref (He.ga X.K (clsNm c)) ∧ ∀ a, H' a = none → Q (.ref a) (upd H' a (ExH X.K c dd a))) hx.x FB hx.ini hx.fn (x_init hx.x SF hx.tk F S e2 e3 e4 e5) hb hr.r I ru (fun d nd => ⟨rfl, fun a na => exn_val m r1 o nd na⟩)) (fun u s' hu => mk_val hu) (fun _ _ x => x)
theorem callx_xb (A : XBare X.K X.mg b c) : CallX X W (.ref (He.ga X.K (clsNm c))) 0 [] (xbG c) := by
  obtain ⟨B, iid, FB, SF⟩ := xBase b
  intro pins σ H s us ws vs zs Q F0 α μ ds I rv rz l1 l2 m r o
  match vs, l1, zs, l2 with
  | [], _, [], _ =>
    cases rv
    cases rz
    cases ds with
    | cons d ds1 =>
      obtain ⟨_, _, e, _⟩ := r
      cases e
    | nil =>
      obtain ⟨bm, N, nm, qn, bs, hdct, sn, sb, ab, col, dd, k0, k1, k2, k3, k5, mN, hC, hN, hni, T⟩ := exc_obj I.kIn A.x
      refine wpAny_mono (Q := L2N.MkP X pins σ (fun cls d H' => cls = .ref (He.ga X.K (clsNm c)) ∧ ∀ a, H' a = none → Q (.ref a) (upd H' a (ExH X.K c d a)))) (wpAny_call_exc_subT (rest := []) FB T hC hN hni (fun h' e hm => L2N.mk_of I hm (raises_own A.s A.t) ⟨rfl, fun a na => ?_⟩ (I.hok.gone hm.new)) (Nat.zero_le _)) (fun u s1 hu => mk_val hu) fun _ _ x => x
      obtain ⟨m3, g3⟩ := m.laid (o := ExH X.K c none a) na
      exact o (.ref a) _ α _ g3 m3 ⟨a, none, rfl, ⟨.inl upd_same⟩, .inl ⟨rfl, rfl⟩⟩
end
@[simp] theorem we_xcG {c f : Nat} {ds : List DV} {μ : List Cel} {Q : DV → List Cel → Prop} {X : Exn → List Cel → Prop} : WE (xcG c f ds μ) Q X = ∃ y, ds = [.d y] ∧ Q (.d (.exn c [(f, y)])) μ := by
  unfold xcG
  split
  · simp
  · rename_i h
    simp only [we_stuck]
    exact propext ⟨fun h => h.elim, fun ⟨y, e, _⟩ => h y e⟩
@[simp] theorem we_xbG {c : Nat} {ds : List DV} {μ : List Cel} {Q : DV → List Cel → Prop} {X : Exn → List Cel → Prop} : WE (xbG c ds μ) Q X = (ds = [] ∧ Q (.d (.exn c [])) μ) := by
  unfold xbG
  cases ds <;> simp
end DL
set_option Elab.async false
set_option linter.all false
set_option maxRecDepth 100000
set_option maxHeartbeats 4000000
namespace DL
open PySem PySem.Spec PyProof.Rows L2
def lstRgD : G1 := fun x μ => match x with
  | .d (.int n) => if 0 ≤ n ∧ n ≤ 1000 then okD (.lst ((List.range n.toNat).map fun (i : Nat) => .int i)) μ else .stuck
  | _ => .stuck
theorem reps_intsR {K : Fr} {F : Hp} : ∀ is : List Int, Reps K F (is.map .int) (is.map V.int)
  | [] => rfl
  | i :: is => ⟨_, _, rfl, rfl, reps_intsR is⟩
section
variable {X : Cx} {W : WX} {e : Expr} {x : EX} {p p2 pos pos2 : Pos}
theorem de_listRg (hc : X.calm = true) (hg : Gl X "list") (hm : X.mg "list" = none) (hg2 : Gl X "range") (hm2 : X.mg "range" = none) (he : DE X W e x)
    (na2 : starEach [e] X.env = (false, eval e X.env) :: starEach [] X.env := by rfl) (na : starEach [.Call (.Name "range" p2) [e] [] pos2] X.env = (false, eval (.Call (.Name "range" p2) [e] [] pos2) X.env) :: starEach [] X.env := by rfl) :
    DE X W (.Call (.Name "list" p) [.Call (.Name "range" p2) [e] [] pos2] [] pos) (e1 lstRgD x) := by
  refine ⟨PE.of (pe_listRg hc hg hm (prg_1 hg2 hm2 he.pe na2) na) fun σ H Q h => ?_⟩
  refine tX_bind (f := fun _ x μ => lstRgD x μ) h fun F α ρ μ v u H1 m s rv o => ?_
  unfold lstRgD at o
  split at o
  · rename_i n
    split at o
    · rename_i hn
      obtain rfl : u = V.int n := rv
      refine ⟨n, rfl, ⟨by decide, by decide, by omega, by omega, by omega⟩, ?_⟩
      have er : rgV 0 n = ((List.range n.toNat).map fun (i : Nat) => (i : Int)).map V.int := by
        unfold rgV
        simp
      have ed : (List.range n.toNat).map (fun (i : Nat) => Dat.int i) = ((List.range n.toNat).map fun (i : Nat) => (i : Int)).map Dat.int := by rw [List.map_map]; rfl
      rw [er]
      rw [ed] at o
      exact out_lst m (reps_intsR _) (by rw [List.length_map, List.length_map, List.length_range]; exact Nat.le_trans (show n.toNat ≤ 1000 by omega) (by decide)) o
    · exact o.elim
  · exact o.elim
end
@[simp] theorem we_lstRg {n : Int} {μ : List Cel} {Q : DV → List Cel → Prop} {X : Exn → List Cel → Prop} : WE (lstRgD (.d (.int n)) μ) Q X = ((0 ≤ n ∧ n ≤ 1000) ∧ Q (.d (.lst ((List.range n.toNat).map fun (i : Nat) => .int i))) μ) := by
  unfold lstRgD
  by_cases h : 0 ≤ n ∧ n ≤ 1000 <;> simp [h, okD]
end DL
set_option Elab.async false
set_option linter.all false
set_option maxRecDepth 100000
set_option maxHeartbeats 0
namespace DL.K01
open PySem PySem.Spec PyProof.Rows L2 DL
abbrev N__law_draw : List Str := ["_law_pool_here", "_law_many", "_law_was", "_law_digit"]
theorem sc__law_draw : FnScope N__law_draw ["_law_pool_here", "_law_many"] (defScope s__law_draw) := ⟨rfl, rfl, rfl, by decide +kernel, rfl, by decide +kernel, by decide +kernel⟩
def b__law_draw : SX := (sSeq (sAsg (e2 addD (e2 ixD (eV 0) (eK (.int 2))) (eK (.int 1))) (gIx (eV 0) (eK (.int 2))))
    (sSeq (sAsg (eN intG (as1 (e2 ixD (eV 0) (eK (.int 0))) as0)) (gN 2))
    (sSeq (sAsg (e2 modD (eN intG (as1 (e2 addD (e2 addD (e2 mulD (eV 2) (e2 addD (e2 modD (eV 2) (eK (.int 44017))) (eK (.int 27011)))) (e2 mulD (eK (.int 70001)) (e2 ixD (eV 0) (eK (.int 2))))) (eK (.int 13))) as0)) (eK (.int 2147483399))) (gIx (eV 0) (eK (.int 0))))
    (sSeq (sIf (tBool (e2 gtD (e2 ixD (eV 0) (eK (.int 1))) (eK (.int 0)))) (sSeq (sAsg (eN divmodG (as1 (e2 ixD (eV 0) (eK (.int 1))) (as1 (eV 1) as0))) (gT 2 (gsC (gIx (eV 0) (eK (.int 1))) (gsC (gN 3) gsN))))
    (sSeq (sRet (eV 3))
    sSkip)) sSkip)
    (sSeq (sRet (e2 modD (eN intG (as1 (e2 fdivD (e2 ixD (eV 0) (eK (.int 0))) (eK (.int 32))) as0)) (eV 1)))
    sSkip)))))
def g__law_draw : Gn := fnG true 4 b__law_draw
abbrev N_InvalidCommand_init : List Str := ["self", "index"]
theorem sc_InvalidCommand_init : FnScope N_InvalidCommand_init ["self", "index"] (defScope s_InvalidCommand_init) := ⟨rfl, rfl, rfl, by decide +kernel, rfl, by decide +kernel, by decide +kernel⟩
abbrev N_InvalidText_init : List Str := ["self", "text"]
theorem sc_InvalidText_init : FnScope N_InvalidText_init ["self", "text"] (defScope s_InvalidText_init) := ⟨rfl, rfl, rfl, by decide +kernel, rfl, by decide +kernel, by decide +kernel⟩
abbrev N_InvalidSide_init : List Str := ["self", "value"]
theorem sc_InvalidSide_init : FnScope N_InvalidSide_init ["self", "value"] (defScope s_InvalidSide_init) := ⟨rfl, rfl, rfl, by decide +kernel, rfl, by decide +kernel, by decide +kernel⟩
abbrev N_InvalidSign_init : List Str := ["self", "sign"]
theorem sc_InvalidSign_init : FnScope N_InvalidSign_init ["self", "sign"] (defScope s_InvalidSign_init) := ⟨rfl, rfl, rfl, by decide +kernel, rfl, by decide +kernel, by decide +kernel⟩
abbrev N_InvalidStyle_init : List Str := ["self", "style"]
theorem sc_InvalidStyle_init : FnScope N_InvalidStyle_init ["self", "style"] (defScope s_InvalidStyle_init) := ⟨rfl, rfl, rfl, by decide +kernel, rfl, by decide +kernel, by decide +kernel⟩
abbrev N_InvalidRows_init : List Str := ["self", "index"]
theorem sc_InvalidRows_init : FnScope N_InvalidRows_init ["self", "index"] (defScope s_InvalidRows_init) := ⟨rfl, rfl, rfl, by decide +kernel, rfl, by decide +kernel, by decide +kernel⟩
abbrev N__law_first : List Str := ["_law_thing", "_law_made", "_law_worths", "_law_e"]
theorem sc__law_first : FnScope N__law_first ["_law_thing"] (defScope s__law_first) := ⟨rfl, rfl, rfl, by decide +kernel, rfl, by decide +kernel, by decide +kernel⟩
def b__law_first : SX := (sSeq (sAsg (eN eLstD (as1 (eCall 1 (xcG 1 0) (as1 (eV 0) as0)) (as1 (eCallK 0 1 (xcG 1 0) as0 (as1 (eV 0) as0)) (as1 (eCall 1 (xcG 2 1) (as1 (eV 0) as0)) (as1 (eCallK 0 1 (xcG 2 1) as0 (as1 (eV 0) as0)) as0))))) (gN 1))
    (sSeq (sAsg (e2 addD (eV 1) (eN eLstD (as1 (eCall 1 (xcG 3 2) (as1 (eV 0) as0)) (as1 (eCallK 0 1 (xcG 3 2) as0 (as1 (eV 0) as0)) (as1 (eCall 1 (xcG 4 3) (as1 (eV 0) as0)) (as1 (eCallK 0 1 (xcG 4 3) as0 (as1 (eV 0) as0)) as0)))))) (gN 1))
    (sSeq (sAsg (e2 addD (eV 1) (eN eLstD (as1 (eCall 1 (xcG 5 4) (as1 (eV 0) as0)) (as1 (eCallK 0 1 (xcG 5 4) as0 (as1 (eV 0) as0)) (as1 (eCall 1 (xcG 6 0) (as1 (eV 0) as0)) (as1 (eCallK 0 1 (xcG 6 0) as0 (as1 (eV 0) as0)) as0)))))) (gN 1))
    (sSeq (sAsg (e2 addD (eLc [3] (iSeq (eSl (eV 1) oN (oS (eK (.int 2))))) (gN 3) tTrue (e1 (xfG [1, 6, 7, 9] 0) (eV 3))) (eLc [3] (iSeq (eSl (eV 1) (oS (eK (.int 2))) (oS (eK (.int 4))))) (gN 3) tTrue (e1 (xfG [2] 1) (eV 3)))) (gN 2))
    (sSeq (sAsg (e2 addD (e2 addD (eV 2) (eLc [3] (iSeq (eSl (eV 1) (oS (eK (.int 4))) (oS (eK (.int 6))))) (gN 3) tTrue (e1 (xfG [3, 12, 13] 2) (eV 3)))) (eLc [3] (iSeq (eSl (eV 1) (oS (eK (.int 6))) (oS (eK (.int 8))))) (gN 3) tTrue (e1 (xfG [4] 3) (eV 3)))) (gN 2))
    (sSeq (sAsg (e2 addD (e2 addD (eV 2) (eLc [3] (iSeq (eSl (eV 1) (oS (eK (.int 8))) (oS (eK (.int 10))))) (gN 3) tTrue (e1 (xfG [5] 4) (eV 3)))) (eLc [3] (iSeq (eSl (eV 1) (oS (eK (.int 10))) oN)) (gN 3) tTrue (e1 (xfG [1, 6, 7, 9] 0) (eV 3)))) (gN 2))
    (sSeq (sRet (eN eLstD (as1 (eV 1) (as1 (eV 2) as0))))
    sSkip)))))))
def g__law_first : Gn := fnG true 4 b__law_first
abbrev N_InvalidBands_init : List Str := ["self", "index"]
theorem sc_InvalidBands_init : FnScope N_InvalidBands_init ["self", "index"] (defScope s_InvalidBands_init) := ⟨rfl, rfl, rfl, by decide +kernel, rfl, by decide +kernel, by decide +kernel⟩
abbrev N_InvalidCell_init : List Str := ["self", "cell"]
theorem sc_InvalidCell_init : FnScope N_InvalidCell_init ["self", "cell"] (defScope s_InvalidCell_init) := ⟨rfl, rfl, rfl, by decide +kernel, rfl, by decide +kernel, by decide +kernel⟩
abbrev N_InvalidBox_init : List Str := ["self", "index"]
theorem sc_InvalidBox_init : FnScope N_InvalidBox_init ["self", "index"] (defScope s_InvalidBox_init) := ⟨rfl, rfl, rfl, by decide +kernel, rfl, by decide +kernel, by decide +kernel⟩
abbrev N_InvalidNumber_init : List Str := ["self", "number"]
theorem sc_InvalidNumber_init : FnScope N_InvalidNumber_init ["self", "number"] (defScope s_InvalidNumber_init) := ⟨rfl, rfl, rfl, by decide +kernel, rfl, by decide +kernel, by decide +kernel⟩
abbrev N_InvalidLine_init : List Str := ["self", "line"]
theorem sc_InvalidLine_init : FnScope N_InvalidLine_init ["self", "line"] (defScope s_InvalidLine_init) := ⟨rfl, rfl, rfl, by decide +kernel, rfl, by decide +kernel, by decide +kernel⟩
abbrev N_NotAStream_init : List Str := ["self", "value"]
theorem sc_NotAStream_init : FnScope N_NotAStream_init ["self", "value"] (defScope s_NotAStream_init) := ⟨rfl, rfl, rfl, by decide +kernel, rfl, by decide +kernel, by decide +kernel⟩
abbrev N_NotAScreen_init : List Str := ["self", "value"]
theorem sc_NotAScreen_init : FnScope N_NotAScreen_init ["self", "value"] (defScope s_NotAScreen_init) := ⟨rfl, rfl, rfl, by decide +kernel, rfl, by decide +kernel, by decide +kernel⟩
abbrev N__law_second : List Str := ["_law_thing", "_law_made", "_law_worths", "_law_e"]
theorem sc__law_second : FnScope N__law_second ["_law_thing"] (defScope s__law_second) := ⟨rfl, rfl, rfl, by decide +kernel, rfl, by decide +kernel, by decide +kernel⟩
def b__law_second : SX := (sSeq (sAsg (eN eLstD (as1 (eCall 1 (xcG 7 0) (as1 (eV 0) as0)) (as1 (eCallK 0 1 (xcG 7 0) as0 (as1 (eV 0) as0)) (as1 (eCall 1 (xcG 8 5) (as1 (eV 0) as0)) (as1 (eCallK 0 1 (xcG 8 5) as0 (as1 (eV 0) as0)) as0))))) (gN 1))
    (sSeq (sAsg (e2 addD (eV 1) (eN eLstD (as1 (eCall 1 (xcG 9 0) (as1 (eV 0) as0)) (as1 (eCallK 0 1 (xcG 9 0) as0 (as1 (eV 0) as0)) (as1 (eCall 1 (xcG 10 6) (as1 (eV 0) as0)) (as1 (eCallK 0 1 (xcG 10 6) as0 (as1 (eV 0) as0)) as0)))))) (gN 1))
    (sSeq (sAsg (e2 addD (eV 1) (eN eLstD (as1 (eCall 1 (xcG 11 7) (as1 (eV 0) as0)) (as1 (eCallK 0 1 (xcG 11 7) as0 (as1 (eV 0) as0)) (as1 (eCall 1 (xcG 12 2) (as1 (eV 0) as0)) (as1 (eCallK 0 1 (xcG 12 2) as0 (as1 (eV 0) as0)) as0)))))) (gN 1))
    (sSeq (sAsg (e2 addD (eV 1) (eN eLstD (as1 (eCall 1 (xcG 13 2) (as1 (eV 0) as0)) (as1 (eCallK 0 1 (xcG 13 2) as0 (as1 (eV 0) as0)) as0)))) (gN 1))
    (sSeq (sAsg (e2 addD (eLc [3] (iSeq (eSl (eV 1) oN (oS (eK (.int 2))))) (gN 3) tTrue (e1 (xfG [1, 6, 7, 9] 0) (eV 3))) (eLc [3] (iSeq (eSl (eV 1) (oS (eK (.int 2))) (oS (eK (.int 4))))) (gN 3) tTrue (e1 (xfG [8] 5) (eV 3)))) (gN 2))
    (sSeq (sAsg (e2 addD (e2 addD (eV 2) (eLc [3] (iSeq (eSl (eV 1) (oS (eK (.int 4))) (oS (eK (.int 6))))) (gN 3) tTrue (e1 (xfG [1, 6, 7, 9] 0) (eV 3)))) (eLc [3] (iSeq (eSl (eV 1) (oS (eK (.int 6))) (oS (eK (.int 8))))) (gN 3) tTrue (e1 (xfG [10] 6) (eV 3)))) (gN 2))
    (sSeq (sAsg (e2 addD (e2 addD (eV 2) (eLc [3] (iSeq (eSl (eV 1) (oS (eK (.int 8))) (oS (eK (.int 10))))) (gN 3) tTrue (e1 (xfG [11] 7) (eV 3)))) (eLc [3] (iSeq (eSl (eV 1) (oS (eK (.int 10))) oN)) (gN 3) tTrue (e1 (xfG [3, 12, 13] 2) (eV 3)))) (gN 2))
    (sSeq (sRet (eN eLstD (as1 (eV 1) (as1 (eV 2) as0))))
    sSkip))))))))
def g__law_second : Gn := fnG true 4 b__law_second
abbrev N_TooManyCommands_init : List Str := ["self", "found"]
theorem sc_TooManyCommands_init : FnScope N_TooManyCommands_init ["self", "found"] (defScope s_TooManyCommands_init) := ⟨rfl, rfl, rfl, by decide +kernel, rfl, by decide +kernel, by decide +kernel⟩
abbrev N_TooManyLetters_init : List Str := ["self", "found"]
theorem sc_TooManyLetters_init : FnScope N_TooManyLetters_init ["self", "found"] (defScope s_TooManyLetters_init) := ⟨rfl, rfl, rfl, by decide +kernel, rfl, by decide +kernel, by decide +kernel⟩
abbrev N_TooManyStreams_init : List Str := ["self", "limit"]
theorem sc_TooManyStreams_init : FnScope N_TooManyStreams_init ["self", "limit"] (defScope s_TooManyStreams_init) := ⟨rfl, rfl, rfl, by decide +kernel, rfl, by decide +kernel, by decide +kernel⟩
abbrev N_TooLarge_init : List Str := ["self", "cells"]
theorem sc_TooLarge_init : FnScope N_TooLarge_init ["self", "cells"] (defScope s_TooLarge_init) := ⟨rfl, rfl, rfl, by decide +kernel, rfl, by decide +kernel, by decide +kernel⟩
abbrev N__law_third : List Str := ["_law_thing", "_law_made", "_law_worths", "_law_e"]
theorem sc__law_third : FnScope N__law_third ["_law_thing"] (defScope s__law_third) := ⟨rfl, rfl, rfl, by decide +kernel, rfl, by decide +kernel, by decide +kernel⟩
def b__law_third : SX := (sSeq (sAsg (eN eLstD (as1 (eCall 1 (xcG 19 8) (as1 (eV 0) as0)) (as1 (eCallK 0 1 (xcG 19 8) as0 (as1 (eV 0) as0)) (as1 (eCall 1 (xcG 20 8) (as1 (eV 0) as0)) (as1 (eCallK 0 1 (xcG 20 8) as0 (as1 (eV 0) as0)) as0))))) (gN 1))
    (sSeq (sAsg (e2 addD (eV 1) (eN eLstD (as1 (eCall 1 (xcG 21 9) (as1 (eV 0) as0)) (as1 (eCallK 0 1 (xcG 21 9) as0 (as1 (eV 0) as0)) (as1 (eCall 1 (xcG 22 10) (as1 (eV 0) as0)) (as1 (eCallK 0 1 (xcG 22 10) as0 (as1 (eV 0) as0)) as0)))))) (gN 1))
    (sSeq (sAsg (e2 addD (eLc [3] (iSeq (eSl (eV 1) oN (oS (eK (.int 4))))) (gN 3) tTrue (e1 (xfG [19, 20] 8) (eV 3))) (eLc [3] (iSeq (eSl (eV 1) (oS (eK (.int 4))) (oS (eK (.int 6))))) (gN 3) tTrue (e1 (xfG [21] 9) (eV 3)))) (gN 2))
    (sSeq (sAsg (e2 addD (eV 2) (eLc [3] (iSeq (eSl (eV 1) (oS (eK (.int 6))) oN)) (gN 3) tTrue (e1 (xfG [22] 10) (eV 3)))) (gN 2))
    (sSeq (sRet (eN eLstD (as1 (eV 1) (as1 (eV 2) as0))))
    sSkip)))))
def g__law_third : Gn := fnG true 4 b__law_third
abbrev N__law_sort : List Str := ["_law_e", "_law_classes_here", "_law_bases", "_law_own", "_law_at"]
theorem sc__law_sort : FnScope N__law_sort ["_law_e"] (defScope s__law_sort) := ⟨rfl, rfl, rfl, by decide +kernel, rfl, by decide +kernel, by decide +kernel⟩
def b__law_sort : SX := (sSeq (sAsg (eN eLstD (as1 (e1 (isiE ie_InvalidCommand) (eV 0)) (as1 (e1 (isiE ie_InvalidText) (eV 0)) (as1 (e1 (isiE ie_InvalidSide) (eV 0)) as0)))) (gN 1))
    (sSeq (sAsg (e2 addD (eV 1) (eN eLstD (as1 (e1 (isiE ie_InvalidSign) (eV 0)) (as1 (e1 (isiE ie_InvalidStyle) (eV 0)) (as1 (e1 (isiE ie_InvalidRows) (eV 0)) as0))))) (gN 1))
    (sSeq (sAsg (e2 addD (eV 1) (eN eLstD (as1 (e1 (isiE ie_InvalidBands) (eV 0)) (as1 (e1 (isiE ie_InvalidCell) (eV 0)) (as1 (e1 (isiE ie_InvalidBox) (eV 0)) as0))))) (gN 1))
    (sSeq (sAsg (e2 addD (eV 1) (eN eLstD (as1 (e1 (isiE ie_InvalidNumber) (eV 0)) (as1 (e1 (isiE ie_InvalidLine) (eV 0)) (as1 (e1 (isiE ie_NotAStream) (eV 0)) as0))))) (gN 1))
    (sSeq (sAsg (e2 addD (eV 1) (eN eLstD (as1 (e1 (isiE ie_NotAScreen) (eV 0)) (as1 (e1 (isiE ie_OtherSize) (eV 0)) (as1 (e1 (isiE ie_Busy) (eV 0)) as0))))) (gN 1))
    (sSeq (sAsg (e2 addD (eV 1) (eN eLstD (as1 (e1 (isiE ie_NothingToUndo) (eV 0)) (as1 (e1 (isiE ie_TooManyCommands) (eV 0)) as0)))) (gN 1))
    (sSeq (sAsg (e2 addD (eV 1) (eN eLstD (as1 (e1 (isiE ie_TooManyLetters) (eV 0)) as0))) (gN 1))
    (sSeq (sAsg (e2 addD (eV 1) (eN eLstD (as1 (e1 (isiE ie_TooManyStreams) (eV 0)) (as1 (e1 (isiE ie_TooLarge) (eV 0)) as0)))) (gN 1))
    (sSeq (sAsg (eN eLstD (as1 (e1 (isiE ie_ScreenError) (eV 0)) (as1 (e1 (isiE ie_FindError) (eV 0)) (as1 (e1 (isiE ie_LimitError) (eV 0)) as0)))) (gN 2))
    (sSeq (sAsg (eN eLstD (as1 (e1 (isiE ieb_ValueError) (eV 0)) (as1 (e1 (isiE ieb_LookupError) (eV 0)) (as1 (e1 (isiE ieb_ArithmeticError) (eV 0)) as0)))) (gN 3))
    (sSeq (sIf (tOrX (tBool (e2 neB (eLm1 countD (eV 1) (eK (.bl true))) (eK (.int 1)))) (tBool (e2 neB (eV 3) (eV 2)))) (sSeq (sRet (e2 subD (eK (.int 0)) (eK (.int 1))))
    sSkip) sSkip)
    (sSeq (sAsg (eLm1 lindexD (eV 1) (eK (.bl true))) (gN 4))
    (sSeq (sRet (eIf (tBool (e2 eqB (eV 2) (eN eLstD (as1 (e2 ltD (eV 4) (eK (.int 13))) (as1 (eChain ltD ltD (eK (.int 12)) (eV 4) (eK (.int 16))) (as1 (e2 gtD (eV 4) (eK (.int 15))) as0)))))) (eV 4) (e2 subD (eK (.int 0)) (eK (.int 1)))))
    sSkip)))))))))))))
def g__law_sort : Gn := fnG true 5 b__law_sort
abbrev N__law_right : List Str := ["_law_pool_here", "_law_things", "_law_thing", "_law_third_here", "_law_joint", "_law_due", "_law_at", "_law_first_here", "_law_second_here", "_law_made", "_law_worths", "_law_e", "_law_value_here"]
theorem sc__law_right : FnScope N__law_right ["_law_pool_here"] (defScope s__law_right) := ⟨rfl, rfl, rfl, by decide +kernel, rfl, by decide +kernel, by decide +kernel⟩
def b__law_right : SX := (sSeq (sAsg (eN eLstD (as1 (eK .non) (as1 (eK (.int 0)) (as1 (eK (.bl true)) (as1 (eK (.str [105, 110, 100, 101, 120])) (as1 (eN eTupD (as1 (eK (.int 1)) (as1 (eK (.int 2)) as0))) (as1 (eN eLstD (as1 (eK (.int 3)) as0)) (as1 (eK .dic) (as1 (e2 powD (eK (.int 10)) (eK (.int 30))) (as1 (e2 subD (eK (.int 0)) (eK (.int 5))) (as1 (eN eTupD (as1 (eK (.str [117, 112])) as0)) as0))))))))))) (gN 1))
    (sSeq (sAsg (e2 ixD (eV 1) (eCall 2 g__law_draw (as1 (eV 0) (as1 (eK (.int 10)) as0)))) (gN 2))
    (sSeq (sPar2 7 8 (as1 (eCall 1 g__law_first (as1 (eV 2) as0)) (as1 (eCall 1 g__law_second (as1 (eV 2) as0)) as0)))
    (sSeq (sAsg (eCall 1 g__law_third (as1 (eV 2) as0)) (gN 3))
    (sSeq (sFor (iSeq (eN eLstD (as1 (eV 7) (as1 (eV 8) (as1 (eV 3) as0))))) (gTL 2 (gsC (gN 9) (gsC (gN 10) gsN))) (sSeq (sIf (tBool (e2 neB (eN lenG (as1 (eV 9) as0)) (eN lenG (as1 (eV 10) as0)))) (sSeq (sRet (eK (.bl false)))
    sSkip) sSkip)
    (sSeq (sIf (tNotX (tTru (eN allG (as1 (eLc [12] (iSeq (eV 10)) (gN 12) tTrue (e2 eqB (e1 reprY (eV 12)) (e1 reprY (eV 2)))) as0)))) (sSeq (sRet (eK (.bl false)))
    sSkip) sSkip)
    sSkip)))
    (sSeq (sAsg (e2 addD (e2 addD (e2 ixD (eV 7) (eK (.int 0))) (e2 ixD (eV 8) (eK (.int 0)))) (e2 ixD (eV 3) (eK (.int 0)))) (gN 4))
    (sSeq (sIf (tTru (eN anyG (as1 (eLc [11] (iSeq (eV 4)) (gN 11) tTrue (eOr (e1 (isiE ieb_KeyError) (eV 11)) (e1 (isiE ieb_IndexError) (eV 11)))) as0))) (sSeq (sRet (eK (.bl false)))
    sSkip) sSkip)
    (sSeq (sIf (tTru (eN anyG (as1 (eLc [11] (iSeq (eV 4)) (gN 11) tTrue (eOr (e1 (isiE ieb_OverflowError) (eV 11)) (e1 (isiE ieb_ZeroDivisionError) (eV 11)))) as0))) (sSeq (sRet (eK (.bl false)))
    sSkip) sSkip)
    (sSeq (sIf (tTru (eN anyG (as1 (eLc [11] (iSeq (eV 4)) (gN 11) tTrue (eOr (e1 (isiE ieb_TypeError) (eV 11)) (e1 (isiE ieb_RuntimeError) (eV 11)))) as0))) (sSeq (sRet (eK (.bl false)))
    sSkip) sSkip)
    (sSeq (sAsg (eN eLstD as0) (gN 5))
    (sSeq (sFor (iSeq (e2 addD (e1 lstRgD (eK (.int 13))) (eN eLstD (as1 (eK (.int 16)) (as1 (eK (.int 17)) (as1 (eK (.int 18)) (as1 (eK (.int 19)) as0))))))) (gN 6) (sSeq (sAsg (e2 addD (eV 5) (eN eLstD (as1 (eV 6) (as1 (eV 6) as0)))) (gN 5))
    sSkip))
    (sSeq (sAsg (e2 addD (eV 4) (eN eLstD (as1 (eCall 0 (xbG 15) as0) (as1 (eCall 0 (xbG 16) as0) (as1 (eCall 0 (xbG 17) as0) as0))))) (gN 4))
    (sSeq (sRet (e2 eqB (eLc [11] (iSeq (eV 4)) (gN 11) tTrue (eCall 1 g__law_sort (as1 (eV 11) as0))) (e2 addD (eV 5) (eN eLstD (as1 (eK (.int 13)) (as1 (eK (.int 14)) (as1 (eK (.int 15)) as0)))))))
    sSkip)))))))))))))
def g__law_right : Gn := fnG true 13 b__law_right
abbrev N__law_pool : List Str := ["_law_figure", "_law_digits"]
theorem sc__law_pool : FnScope N__law_pool ["_law_figure"] (defScope s__law_pool) := ⟨rfl, rfl, rfl, by decide +kernel, rfl, by decide +kernel, by decide +kernel⟩
def b__law_pool : SX := (sSeq (sAsg (eIf (tOrX (tBool (e2 ltD (eV 0) (eK (.int 0)))) (tBool (e2 geD (eV 0) (e2 powD (eK (.int 10)) (eK (.int 18)))))) (eN absG (as1 (eV 0) as0)) (eK (.int 0))) (gN 1))
    (sSeq (sRet (eN eLstC (as1 (e2 modD (eN intG (as1 (eV 0) as0)) (eK (.int 2147483399))) (as1 (eV 1) (as1 (eK (.int 0)) as0)))))
    sSkip))
def g__law_pool : Gn := fnG false 2 b__law_pool
abbrev N__law_cell : List Str := ["_law_script", "_law_k", "_law_state_here", "_law_figure"]
theorem sc__law_cell : FnScope N__law_cell ["_law_script", "_law_k"] (defScope s__law_cell) := ⟨rfl, rfl, rfl, by decide +kernel, rfl, by decide +kernel, by decide +kernel⟩
def b__law_cell : SX := (sSeq (sIf (tBool (e2 ltD (eV 1) (eN lenG (as1 (eV 0) as0)))) (sSeq (sRet (eN intG (as1 (e2 ixD (eV 0) (eV 1)) as0)))
    sSkip) sSkip)
    (sSeq (sAsg (e2 modD (eN intG (as1 (e2 mulD (eK (.int 50021)) (e2 addD (e2 addD (e2 mulD (eV 1) (eV 1)) (e2 mulD (eK (.int 9)) (eV 1))) (eK (.int 7)))) as0)) (eK (.int 2147483399))) (gN 2))
    (sSeq (sFor (iSeq (eSl (eV 0) oN (oS (eK (.int 3))))) (gN 3) (sSeq (sAsg (e2 modD (eN intG (as1 (e2 addD (e2 mulD (eV 2) (eK (.int 40111))) (eV 3)) as0)) (eK (.int 2147483399))) (gN 2))
    sSkip))
    (sSeq (sRet (eV 2))
    sSkip))))
def g__law_cell : Gn := fnG true 4 b__law_cell
abbrev N_law : List Str := ["_law_script", "_law_told", "_law_many", "_law_k"]
theorem sc_law : FnScope N_law ["_law_script"] (defScope s_law) := ⟨rfl, rfl, rfl, by decide +kernel, rfl, by decide +kernel, by decide +kernel⟩
def b_law : SX := (sSeq (sAsg (eN eLstD (as1 (eK (.int 1000000)) (as1 (eK (.int 20)) as0))) (gN 1))
    (sSeq (sAsg (e2 addD (eV 1) (eN eLstD (as1 (eK (.int 20)) (as1 (eK (.int 4)) as0)))) (gN 1))
    (sSeq (sAsg (e2 addD (eV 1) (eN eLstD (as1 (eK (.int 99)) (as1 (eK (.int 1000000000)) as0)))) (gN 1))
    (sSeq (sAsg (e2 addD (eV 1) (eN eLstD (as1 (eK (.int 9)) (as1 (eK (.int 10000)) (as1 (eK (.int 100)) as0))))) (gN 1))
    (sSeq (sIf (tBool (e2 neB (eV 1) (eN eLstD (as1 (e2 powD (eK (.int 10)) (eK (.int 6))) (as1 (eK (.int 20)) (as1 (eK (.int 20)) (as1 (eK (.int 4)) (as1 (eK (.int 99)) (as1 (e2 powD (eK (.int 10)) (eK (.int 9))) (as1 (eK (.int 9)) (as1 (eK (.int 10000)) (as1 (eK (.int 100)) as0)))))))))))) (sSeq (sRet (eK (.bl false)))
    sSkip) sSkip)
    (sSeq (sAsg (eN maxG (as1 (eK (.int 2)) (as1 (eN minG (as1 (eN lenG (as1 (eV 0) as0)) (as1 (eK (.int 4)) as0))) as0))) (gN 2))
    (sSeq (sRet (eN allG (as1 (eLc [3] (iRange1 (eV 2)) (gN 3) tTrue (eCall 1 g__law_right (as1 (eCall 1 g__law_pool (as1 (eCall 2 g__law_cell (as1 (eV 0) (as1 (eV 3) as0))) as0)) as0))) as0)))
    sSkip)))))))
def g_law : Gn := fnG true 4 b_law
/-- what is known of the module -/
structure Fx (K : Fr) (mg : Str → Option Value) (base : Heap) : Prop where
  f_ArithmeticError : mg "ArithmeticError" = none
  f_IndexError : mg "IndexError" = none
  f_KeyError : mg "KeyError" = none
  f_LookupError : mg "LookupError" = none
  f_OverflowError : mg "OverflowError" = none
  f_RuntimeError : mg "RuntimeError" = none
  f_TypeError : mg "TypeError" = none
  f_ValueError : mg "ValueError" = none
  f_ZeroDivisionError : mg "ZeroDivisionError" = none
  f_abs : mg "abs" = none
  f_all : mg "all" = none
  f_any : mg "any" = none
  f_divmod : mg "divmod" = none
  f_int : mg "int" = none
  f_isinstance : mg "isinstance" = none
  f_len : mg "len" = none
  f_list : mg "list" = none
  f_max : mg "max" = none
  f_min : mg "min" = none
  f_range : mg "range" = none
  f_repr : mg "repr" = none
  g_Busy : mg "Busy" = some (.ref (He.ga K "Busy"))
  g_FindError : mg "FindError" = some (.ref (He.ga K "FindError"))
  g_InvalidBands : mg "InvalidBands" = some (.ref (He.ga K "InvalidBands"))
  g_InvalidBox : mg "InvalidBox" = some (.ref (He.ga K "InvalidBox"))
  g_InvalidCell : mg "InvalidCell" = some (.ref (He.ga K "InvalidCell"))
  g_InvalidCommand : mg "InvalidCommand" = some (.ref (He.ga K "InvalidCommand"))
  g_InvalidLine : mg "InvalidLine" = some (.ref (He.ga K "InvalidLine"))
  g_InvalidNumber : mg "InvalidNumber" = some (.ref (He.ga K "InvalidNumber"))
  g_InvalidRows : mg "InvalidRows" = some (.ref (He.ga K "InvalidRows"))
  g_InvalidSide : mg "InvalidSide" = some (.ref (He.ga K "InvalidSide"))
  g_InvalidSign : mg "InvalidSign" = some (.ref (He.ga K "InvalidSign"))
  g_InvalidStyle : mg "InvalidStyle" = some (.ref (He.ga K "InvalidStyle"))
  g_InvalidText : mg "InvalidText" = some (.ref (He.ga K "InvalidText"))
  g_LimitError : mg "LimitError" = some (.ref (He.ga K "LimitError"))
  g_NotAScreen : mg "NotAScreen" = some (.ref (He.ga K "NotAScreen"))
  g_NotAStream : mg "NotAStream" = some (.ref (He.ga K "NotAStream"))
  g_NothingToUndo : mg "NothingToUndo" = some (.ref (He.ga K "NothingToUndo"))
  g_OtherSize : mg "OtherSize" = some (.ref (He.ga K "OtherSize"))
  g_ScreenError : mg "ScreenError" = some (.ref (He.ga K "ScreenError"))
  g_TooLarge : mg "TooLarge" = some (.ref (He.ga K "TooLarge"))
  g_TooManyCommands : mg "TooManyCommands" = some (.ref (He.ga K "TooManyCommands"))
  g_TooManyLetters : mg "TooManyLetters" = some (.ref (He.ga K "TooManyLetters"))
  g_TooManyStreams : mg "TooManyStreams" = some (.ref (He.ga K "TooManyStreams"))
  g__law_cell : mg "_law_cell" = some (.ref (He.ga K "_law_cell"))
  g__law_draw : mg "_law_draw" = some (.ref (He.ga K "_law_draw"))
  g__law_first : mg "_law_first" = some (.ref (He.ga K "_law_first"))
  g__law_pool : mg "_law_pool" = some (.ref (He.ga K "_law_pool"))
  g__law_right : mg "_law_right" = some (.ref (He.ga K "_law_right"))
  g__law_second : mg "_law_second" = some (.ref (He.ga K "_law_second"))
  g__law_sort : mg "_law_sort" = some (.ref (He.ga K "_law_sort"))
  g__law_third : mg "_law_third" = some (.ref (He.ga K "_law_third"))
  g_law : mg "law" = some (.ref (He.ga K "law"))
  k_MOST_COMMANDS : ∃ t, mg "MOST_COMMANDS" = some (.int 20 t)
  k_MOST_LETTERS : ∃ t, mg "MOST_LETTERS" = some (.int 20 t)
  k_MOST_LEVELS : ∃ t, mg "MOST_LEVELS" = some (.int 4 t)
  k_MOST_NUMBER : ∃ t, mg "MOST_NUMBER" = some (.int 1000000 t)
  k_MOST_SIDE : ∃ t, mg "MOST_SIDE" = some (.int 1000000000 t)
  k_MOST_STREAMS : ∃ t, mg "MOST_STREAMS" = some (.int 100 t)
  k_MOST_STYLE : ∃ t, mg "MOST_STYLE" = some (.int 9 t)
  k_MOST_TEXT : ∃ t, mg "MOST_TEXT" = some (.int 10000 t)
  k_MOST_TIMES : ∃ t, mg "MOST_TIMES" = some (.int 99 t)
  kb_Busy : PySem.W.keepIn K (.ref (He.ga K "Busy")) = true
  kb_NothingToUndo : PySem.W.keepIn K (.ref (He.ga K "NothingToUndo")) = true
  kb_OtherSize : PySem.W.keepIn K (.ref (He.ga K "OtherSize")) = true
  xb_Busy : xbB K 1 16 = true
  xb_NothingToUndo : xbB K 1 17 = true
  xb_OtherSize : xbB K 1 15 = true
  xc_InvalidCommand : XCls K 0 (He.ga K (clsNm 1)) (fldNm 0) (He.ma K (He.ga K "InvalidCommand") "__init__")
  xc_InvalidText : XCls K 0 (He.ga K (clsNm 2)) (fldNm 1) (He.ma K (He.ga K "InvalidText") "__init__")
  xc_InvalidSide : XCls K 0 (He.ga K (clsNm 3)) (fldNm 2) (He.ma K (He.ga K "InvalidSide") "__init__")
  xc_InvalidSign : XCls K 0 (He.ga K (clsNm 4)) (fldNm 3) (He.ma K (He.ga K "InvalidSign") "__init__")
  xc_InvalidStyle : XCls K 0 (He.ga K (clsNm 5)) (fldNm 4) (He.ma K (He.ga K "InvalidStyle") "__init__")
  xc_InvalidRows : XCls K 0 (He.ga K (clsNm 6)) (fldNm 0) (He.ma K (He.ga K "InvalidRows") "__init__")
  xc_InvalidBands : XCls K 0 (He.ga K (clsNm 7)) (fldNm 0) (He.ma K (He.ga K "InvalidBands") "__init__")
  xc_InvalidCell : XCls K 0 (He.ga K (clsNm 8)) (fldNm 5) (He.ma K (He.ga K "InvalidCell") "__init__")
  xc_InvalidBox : XCls K 0 (He.ga K (clsNm 9)) (fldNm 0) (He.ma K (He.ga K "InvalidBox") "__init__")
  xc_InvalidNumber : XCls K 0 (He.ga K (clsNm 10)) (fldNm 6) (He.ma K (He.ga K "InvalidNumber") "__init__")
  xc_InvalidLine : XCls K 0 (He.ga K (clsNm 11)) (fldNm 7) (He.ma K (He.ga K "InvalidLine") "__init__")
  xc_NotAStream : XCls K 0 (He.ga K (clsNm 12)) (fldNm 2) (He.ma K (He.ga K "NotAStream") "__init__")
  xc_NotAScreen : XCls K 0 (He.ga K (clsNm 13)) (fldNm 2) (He.ma K (He.ga K "NotAScreen") "__init__")
  xc_TooManyCommands : XCls K 2 (He.ga K (clsNm 19)) (fldNm 8) (He.ma K (He.ga K "TooManyCommands") "__init__")
  xc_TooManyLetters : XCls K 2 (He.ga K (clsNm 20)) (fldNm 8) (He.ma K (He.ga K "TooManyLetters") "__init__")
  xc_TooManyStreams : XCls K 2 (He.ga K (clsNm 21)) (fldNm 9) (He.ma K (He.ga K "TooManyStreams") "__init__")
  xc_TooLarge : XCls K 2 (He.ga K (clsNm 22)) (fldNm 10) (He.ma K (He.ga K "TooLarge") "__init__")
  sysm : ∃ o, K.lookup sysModules = some o
  xaall : XaAll K [1, 2, 3, 4, 5, 6, 7, 8, 9, 10, 11, 12, 13, 15, 16, 17, 19, 20, 21, 22]
  xf_cell : xfB K [8] 5 = true
  xf_cells : xfB K [22] 10 = true
  xf_found : xfB K [19, 20] 8 = true
  xf_index : xfB K [1, 6, 7, 9] 0 = true
  xf_limit : xfB K [21] 9 = true
  xf_line : xfB K [11] 7 = true
  xf_number : xfB K [10] 6 = true
  xf_sign : xfB K [4] 3 = true
  xf_style : xfB K [5] 4 = true
  xf_text : xfB K [2] 1 = true
  xf_value : xfB K [3, 12, 13] 2 = true
  ie_Busy : isiEB K (.ref (He.ga K "Busy")) ie_Busy = true
  ie_FindError : isiEB K (.ref (He.ga K "FindError")) ie_FindError = true
  ie_InvalidBands : isiEB K (.ref (He.ga K "InvalidBands")) ie_InvalidBands = true
  ie_InvalidBox : isiEB K (.ref (He.ga K "InvalidBox")) ie_InvalidBox = true
  ie_InvalidCell : isiEB K (.ref (He.ga K "InvalidCell")) ie_InvalidCell = true
  ie_InvalidCommand : isiEB K (.ref (He.ga K "InvalidCommand")) ie_InvalidCommand = true
  ie_InvalidLine : isiEB K (.ref (He.ga K "InvalidLine")) ie_InvalidLine = true
  ie_InvalidNumber : isiEB K (.ref (He.ga K "InvalidNumber")) ie_InvalidNumber = true
  ie_InvalidRows : isiEB K (.ref (He.ga K "InvalidRows")) ie_InvalidRows = true
  ie_InvalidSide : isiEB K (.ref (He.ga K "InvalidSide")) ie_InvalidSide = true
  ie_InvalidSign : isiEB K (.ref (He.ga K "InvalidSign")) ie_InvalidSign = true
  ie_InvalidStyle : isiEB K (.ref (He.ga K "InvalidStyle")) ie_InvalidStyle = true
  ie_InvalidText : isiEB K (.ref (He.ga K "InvalidText")) ie_InvalidText = true
  ie_LimitError : isiEB K (.ref (He.ga K "LimitError")) ie_LimitError = true
  ie_NotAScreen : isiEB K (.ref (He.ga K "NotAScreen")) ie_NotAScreen = true
  ie_NotAStream : isiEB K (.ref (He.ga K "NotAStream")) ie_NotAStream = true
  ie_NothingToUndo : isiEB K (.ref (He.ga K "NothingToUndo")) ie_NothingToUndo = true
  ie_OtherSize : isiEB K (.ref (He.ga K "OtherSize")) ie_OtherSize = true
  ie_ScreenError : isiEB K (.ref (He.ga K "ScreenError")) ie_ScreenError = true
  ie_TooLarge : isiEB K (.ref (He.ga K "TooLarge")) ie_TooLarge = true
  ie_TooManyCommands : isiEB K (.ref (He.ga K "TooManyCommands")) ie_TooManyCommands = true
  ie_TooManyLetters : isiEB K (.ref (He.ga K "TooManyLetters")) ie_TooManyLetters = true
  ie_TooManyStreams : isiEB K (.ref (He.ga K "TooManyStreams")) ie_TooManyStreams = true
  ieb_ArithmeticError : isiEB K (.type "ArithmeticError") ieb_ArithmeticError = true
  ieb_IndexError : isiEB K (.type "IndexError") ieb_IndexError = true
  ieb_KeyError : isiEB K (.type "KeyError") ieb_KeyError = true
  ieb_LookupError : isiEB K (.type "LookupError") ieb_LookupError = true
  ieb_OverflowError : isiEB K (.type "OverflowError") ieb_OverflowError = true
  ieb_RuntimeError : isiEB K (.type "RuntimeError") ieb_RuntimeError = true
  ieb_TypeError : isiEB K (.type "TypeError") ieb_TypeError = true
  ieb_ValueError : isiEB K (.type "ValueError") ieb_ValueError = true
  ieb_ZeroDivisionError : isiEB K (.type "ZeroDivisionError") ieb_ZeroDivisionError = true
  fn__law_draw : ∃ fd, FunR K d__law_draw fd
  kp__law_draw : PySem.W.keepIn K (.ref (d__law_draw.ad K)) = true
  fn_InvalidCommand_init : ∃ fd, FunR K d_InvalidCommand_init fd
  kp_InvalidCommand_init : PySem.W.keepIn K (.ref (d_InvalidCommand_init.ad K)) = true
  fn_InvalidText_init : ∃ fd, FunR K d_InvalidText_init fd
  kp_InvalidText_init : PySem.W.keepIn K (.ref (d_InvalidText_init.ad K)) = true
  fn_InvalidSide_init : ∃ fd, FunR K d_InvalidSide_init fd
  kp_InvalidSide_init : PySem.W.keepIn K (.ref (d_InvalidSide_init.ad K)) = true
  fn_InvalidSign_init : ∃ fd, FunR K d_InvalidSign_init fd
  kp_InvalidSign_init : PySem.W.keepIn K (.ref (d_InvalidSign_init.ad K)) = true
  fn_InvalidStyle_init : ∃ fd, FunR K d_InvalidStyle_init fd
  kp_InvalidStyle_init : PySem.W.keepIn K (.ref (d_InvalidStyle_init.ad K)) = true
  fn_InvalidRows_init : ∃ fd, FunR K d_InvalidRows_init fd
  kp_InvalidRows_init : PySem.W.keepIn K (.ref (d_InvalidRows_init.ad K)) = true
  fn__law_first : ∃ fd, FunR K d__law_first fd
  kp__law_first : PySem.W.keepIn K (.ref (d__law_first.ad K)) = true
  fn_InvalidBands_init : ∃ fd, FunR K d_InvalidBands_init fd
  kp_InvalidBands_init : PySem.W.keepIn K (.ref (d_InvalidBands_init.ad K)) = true
  fn_InvalidCell_init : ∃ fd, FunR K d_InvalidCell_init fd
  kp_InvalidCell_init : PySem.W.keepIn K (.ref (d_InvalidCell_init.ad K)) = true
  fn_InvalidBox_init : ∃ fd, FunR K d_InvalidBox_init fd
  kp_InvalidBox_init : PySem.W.keepIn K (.ref (d_InvalidBox_init.ad K)) = true
  fn_InvalidNumber_init : ∃ fd, FunR K d_InvalidNumber_init fd
  kp_InvalidNumber_init : PySem.W.keepIn K (.ref (d_InvalidNumber_init.ad K)) = true
  fn_InvalidLine_init : ∃ fd, FunR K d_InvalidLine_init fd
  kp_InvalidLine_init : PySem.W.keepIn K (.ref (d_InvalidLine_init.ad K)) = true
  fn_NotAStream_init : ∃ fd, FunR K d_NotAStream_init fd
  kp_NotAStream_init : PySem.W.keepIn K (.ref (d_NotAStream_init.ad K)) = true
  fn_NotAScreen_init : ∃ fd, FunR K d_NotAScreen_init fd
  kp_NotAScreen_init : PySem.W.keepIn K (.ref (d_NotAScreen_init.ad K)) = true
  fn__law_second : ∃ fd, FunR K d__law_second fd
  kp__law_second : PySem.W.keepIn K (.ref (d__law_second.ad K)) = true
  fn_TooManyCommands_init : ∃ fd, FunR K d_TooManyCommands_init fd
  kp_TooManyCommands_init : PySem.W.keepIn K (.ref (d_TooManyCommands_init.ad K)) = true
  fn_TooManyLetters_init : ∃ fd, FunR K d_TooManyLetters_init fd
  kp_TooManyLetters_init : PySem.W.keepIn K (.ref (d_TooManyLetters_init.ad K)) = true
  fn_TooManyStreams_init : ∃ fd, FunR K d_TooManyStreams_init fd
  kp_TooManyStreams_init : PySem.W.keepIn K (.ref (d_TooManyStreams_init.ad K)) = true
  fn_TooLarge_init : ∃ fd, FunR K d_TooLarge_init fd
  kp_TooLarge_init : PySem.W.keepIn K (.ref (d_TooLarge_init.ad K)) = true
  fn__law_third : ∃ fd, FunR K d__law_third fd
  kp__law_third : PySem.W.keepIn K (.ref (d__law_third.ad K)) = true
  fn__law_sort : ∃ fd, FunR K d__law_sort fd
  kp__law_sort : PySem.W.keepIn K (.ref (d__law_sort.ad K)) = true
  fn__law_right : ∃ fd, FunR K d__law_right fd
  kp__law_right : PySem.W.keepIn K (.ref (d__law_right.ad K)) = true
  fn__law_pool : ∃ fd, FunR K d__law_pool fd
  kp__law_pool : PySem.W.keepIn K (.ref (d__law_pool.ad K)) = true
  fn__law_cell : ∃ fd, FunR K d__law_cell fd
  kp__law_cell : PySem.W.keepIn K (.ref (d__law_cell.ad K)) = true
  fn_law : ∃ fd, FunR K d_law fd
  kp_law : PySem.W.keepIn K (.ref (d_law.ad K)) = true
end DL.K01
set_option Elab.async false
set_option linter.all false
set_option maxRecDepth 100000
set_option maxHeartbeats 4000000
namespace DL
open PySem PySem.Spec PyProof.Rows L2
theorem runB_join {r : PySem.W.OpenRow} {M : Nat} {as : (Addr → Option Obj) → List Nat} {w : World} {ca cb : Fr → Bool} {fa fb : List DefR} {ts : List TabR} {ls : List Str}
    (ha : RunB r (hookL as ca fa [] []) (fun s => obsL as ca fa [] [] (HandSHeadRun.getT s)) M w) (hb : RunB r (hookL as cb fb ts ls) (fun s => obsL as cb fb ts ls (HandSHeadRun.getT s)) M w) :
    RunB r (hookL as (fun K => ca K && cb K) (fa ++ fb) ts ls) (fun s => obsL as (fun K => ca K && cb K) (fa ++ fb) ts ls (HandSHeadRun.getT s)) M w := by
  intro os
  have a := ha os
  have b := hb os
  revert a b
  generalize HandSHeadRun.endF _ _ _ _ _ = x
  intro a b
  cases x with
  | none => cases a
  | some s =>
    have a2 : obsL as ca fa [] [] (HandSHeadRun.getT s) = (valRT fa [] w, true) := Option.some.inj a
    have b2 : obsL as cb fb ts ls (HandSHeadRun.getT s) = (valRT fb ts w, true) := Option.some.inj b
    have e1 := congrArg (fun z : He.AlT × Bool => z.1) a2
    have e2 := congrArg (fun z : He.AlT × Bool => z.1) b2
    have e3 := congrArg (fun z : He.AlT × Bool => z.2) b2
    show some (obsL as (fun K => ca K && cb K) (fa ++ fb) ts ls (HandSHeadRun.getT s)) = some (valRT (fa ++ fb) ts w, true)
    exact congrArg some (Prod.ext (obsRT_join (K := He.frG (HandSHeadRun.getT s) (as (HandSHeadRun.getT s))) e1 e2) e3)
theorem runA_from {r : PySem.W.OpenRow} {q : Program} {M : Nat} {loose : List PySem.Str} {w : World} (h : RunA0 r q M loose w) : RunA r q M loose w := h
theorem runB_of {r : PySem.W.OpenRow} {M : Nat} {as : (Addr → Option Obj) → List Nat} {w : World} {ca cb chk : Fr → Bool} {fn : List DefR} {ts : List TabR} {ls : List Str} (e : chk = fun K => ca K && cb K)
    (ha : RunB r (hookL as ca [] [] []) (fun s => obsL as ca [] [] [] (HandSHeadRun.getT s)) M w) (hb : RunB r (hookL as cb fn ts ls) (fun s => obsL as cb fn ts ls (HandSHeadRun.getT s)) M w) :
    RunB r (hookL as chk fn ts ls) (fun s => obsL as chk fn ts ls (HandSHeadRun.getT s)) M w := by
  subst e
  exact runB_join ha hb
end DL
set_option Elab.async false
set_option linter.all false
set_option maxRecDepth 100000
set_option maxHeartbeats 0
namespace DL.K01
open PySem PySem.Spec PyProof.Rows L2 DL
abbrev hk : PySem.W.Hook := hookL ordr chk fns tbs lams
def ob (s : PySem.W.SharedT) : He.AlT × Bool := obsL ordr chk fns tbs lams (HandSHeadRun.getT s)
theorem ob_eq (s : PySem.W.SharedT) : ob s = hk.obs s.abs := obsL_eq (HandSHeadRun.getT_eq s)
theorem runBXF (w : World) : RunB R (hookL ordr chkX [] [] []) (fun s => obsL ordr chkX [] [] [] (HandSHeadRun.getT s)) 20000 (w.withFollow "special-get-raises" false) := rBZXF w
theorem runBYF (w : World) : RunB R (hookL ordr chkY fns tbs lams) (fun s => obsL ordr chkY fns tbs lams (HandSHeadRun.getT s)) 20000 (w.withFollow "special-get-raises" false) := rBZYF w
theorem runF (w : World) : HandSHeadRun.RunEq R (PySem.W.view R.prog [42]) hk ob 20000 nms (w.withFollow "special-get-raises" false) := runAB (runA_from (runAF w)) (runB_of (chk := chk) rfl (runBXF w) (runBYF w))
theorem runBXT (w : World) : RunB R (hookL ordr chkX [] [] []) (fun s => obsL ordr chkX [] [] [] (HandSHeadRun.getT s)) 20000 (w.withFollow "special-get-raises" true) := rBZXT w
theorem runBYT (w : World) : RunB R (hookL ordr chkY fns tbs lams) (fun s => obsL ordr chkY fns tbs lams (HandSHeadRun.getT s)) 20000 (w.withFollow "special-get-raises" true) := rBZYT w
theorem runT (w : World) : HandSHeadRun.RunEq R (PySem.W.view R.prog [42]) hk ob 20000 nms (w.withFollow "special-get-raises" true) := runAB (runA_from (runAT w)) (runB_of (chk := chk) rfl (runBXT w) (runBYT w))
theorem run (w : World) : HandSHeadRun.RunEq R (PySem.W.view R.prog [42]) hk ob 20000 nms w := PySem.W.byRow2 "special-get-raises" runF runT w
theorem facts {w : World} {K : Fr} {h : Heap} {mg : Str → Option Value} (X : K.In h) (G : h.Ns mainGlobals mg) (c : SaysRT chk fns tbs w K) {base : Heap} (TB : ∀ f ∈ lams, LamX.TabB base mg (cdA K f) (tabA K f)) : Fx K mg base := by
  have z := c.test
  obtain ⟨z, y10⟩ := He.ba z
  obtain ⟨y0, z⟩ := He.ba z
  obtain ⟨y1, z⟩ := He.ba z
  obtain ⟨y2, z⟩ := He.ba z
  obtain ⟨y3, z⟩ := He.ba z
  obtain ⟨y4, z⟩ := He.ba z
  obtain ⟨y5, z⟩ := He.ba z
  obtain ⟨y6, z⟩ := He.ba z
  obtain ⟨y7, z⟩ := He.ba z
  obtain ⟨y8, z⟩ := He.ba z
  have y9 := z
  obtain ⟨q0, y0⟩ := He.ba y0
  obtain ⟨q1, y0⟩ := He.ba y0
  obtain ⟨q2, y0⟩ := He.ba y0
  obtain ⟨q3, y0⟩ := He.ba y0
  obtain ⟨q4, y0⟩ := He.ba y0
  obtain ⟨q5, y0⟩ := He.ba y0
  obtain ⟨q6, y0⟩ := He.ba y0
  obtain ⟨q7, y0⟩ := He.ba y0
  obtain ⟨q8, y0⟩ := He.ba y0
  obtain ⟨q9, y0⟩ := He.ba y0
  obtain ⟨q10, y0⟩ := He.ba y0
  have q11 := y0
  obtain ⟨q12, y1⟩ := He.ba y1
  obtain ⟨q13, y1⟩ := He.ba y1
  obtain ⟨q14, y1⟩ := He.ba y1
  obtain ⟨q15, y1⟩ := He.ba y1
  obtain ⟨q16, y1⟩ := He.ba y1
  obtain ⟨q17, y1⟩ := He.ba y1
  obtain ⟨q18, y1⟩ := He.ba y1
  obtain ⟨q19, y1⟩ := He.ba y1
  obtain ⟨q20, y1⟩ := He.ba y1
  obtain ⟨q21, y1⟩ := He.ba y1
  obtain ⟨q22, y1⟩ := He.ba y1
  have q23 := y1
  obtain ⟨q24, y2⟩ := He.ba y2
  obtain ⟨q25, y2⟩ := He.ba y2
  obtain ⟨q26, y2⟩ := He.ba y2
  obtain ⟨q27, y2⟩ := He.ba y2
  obtain ⟨q28, y2⟩ := He.ba y2
  obtain ⟨q29, y2⟩ := He.ba y2
  obtain ⟨q30, y2⟩ := He.ba y2
  obtain ⟨q31, y2⟩ := He.ba y2
  obtain ⟨q32, y2⟩ := He.ba y2
  obtain ⟨q33, y2⟩ := He.ba y2
  obtain ⟨q34, y2⟩ := He.ba y2
  have q35 := y2
  obtain ⟨q36, y3⟩ := He.ba y3
  obtain ⟨q37, y3⟩ := He.ba y3
  obtain ⟨q38, y3⟩ := He.ba y3
  obtain ⟨q39, y3⟩ := He.ba y3
  obtain ⟨q40, y3⟩ := He.ba y3
  obtain ⟨q41, y3⟩ := He.ba y3
  obtain ⟨q42, y3⟩ := He.ba y3
  obtain ⟨q43, y3⟩ := He.ba y3
  obtain ⟨q44, y3⟩ := He.ba y3
  obtain ⟨q45, y3⟩ := He.ba y3
  obtain ⟨q46, y3⟩ := He.ba y3
  have q47 := y3
  obtain ⟨q48, y4⟩ := He.ba y4
  obtain ⟨q49, y4⟩ := He.ba y4
  obtain ⟨q50, y4⟩ := He.ba y4
  obtain ⟨q51, y4⟩ := He.ba y4
  obtain ⟨q52, y4⟩ := He.ba y4
  obtain ⟨q53, y4⟩ := He.ba y4
  obtain ⟨q54, y4⟩ := He.ba y4
  obtain ⟨q55, y4⟩ := He.ba y4
  obtain ⟨q56, y4⟩ := He.ba y4
  obtain ⟨q57, y4⟩ := He.ba y4
  obtain ⟨q58, y4⟩ := He.ba y4
  have q59 := y4
  obtain ⟨q60, y5⟩ := He.ba y5
  obtain ⟨q61, y5⟩ := He.ba y5
  obtain ⟨q62, y5⟩ := He.ba y5
  obtain ⟨q63, y5⟩ := He.ba y5
  obtain ⟨q64, y5⟩ := He.ba y5
  obtain ⟨q65, y5⟩ := He.ba y5
  obtain ⟨q66, y5⟩ := He.ba y5
  obtain ⟨q67, y5⟩ := He.ba y5
  obtain ⟨q68, y5⟩ := He.ba y5
  obtain ⟨q69, y5⟩ := He.ba y5
  obtain ⟨q70, y5⟩ := He.ba y5
  have q71 := y5
  obtain ⟨q72, y6⟩ := He.ba y6
  obtain ⟨q73, y6⟩ := He.ba y6
  obtain ⟨q74, y6⟩ := He.ba y6
  obtain ⟨q75, y6⟩ := He.ba y6
  obtain ⟨q76, y6⟩ := He.ba y6
  obtain ⟨q77, y6⟩ := He.ba y6
  obtain ⟨q78, y6⟩ := He.ba y6
  obtain ⟨q79, y6⟩ := He.ba y6
  obtain ⟨q80, y6⟩ := He.ba y6
  obtain ⟨q81, y6⟩ := He.ba y6
  obtain ⟨q82, y6⟩ := He.ba y6
  have q83 := y6
  obtain ⟨q84, y7⟩ := He.ba y7
  obtain ⟨q85, y7⟩ := He.ba y7
  obtain ⟨q86, y7⟩ := He.ba y7
  obtain ⟨q87, y7⟩ := He.ba y7
  obtain ⟨q88, y7⟩ := He.ba y7
  obtain ⟨q89, y7⟩ := He.ba y7
  obtain ⟨q90, y7⟩ := He.ba y7
  obtain ⟨q91, y7⟩ := He.ba y7
  obtain ⟨q92, y7⟩ := He.ba y7
  obtain ⟨q93, y7⟩ := He.ba y7
  obtain ⟨q94, y7⟩ := He.ba y7
  have q95 := y7
  obtain ⟨q96, y8⟩ := He.ba y8
  obtain ⟨q97, y8⟩ := He.ba y8
  obtain ⟨q98, y8⟩ := He.ba y8
  obtain ⟨q99, y8⟩ := He.ba y8
  obtain ⟨q100, y8⟩ := He.ba y8
  obtain ⟨q101, y8⟩ := He.ba y8
  obtain ⟨q102, y8⟩ := He.ba y8
  obtain ⟨q103, y8⟩ := He.ba y8
  obtain ⟨q104, y8⟩ := He.ba y8
  obtain ⟨q105, y8⟩ := He.ba y8
  obtain ⟨q106, y8⟩ := He.ba y8
  have q107 := y8
  obtain ⟨q108, y9⟩ := He.ba y9
  obtain ⟨q109, y9⟩ := He.ba y9
  obtain ⟨q110, y9⟩ := He.ba y9
  obtain ⟨q111, y9⟩ := He.ba y9
  obtain ⟨q112, y9⟩ := He.ba y9
  obtain ⟨q113, y9⟩ := He.ba y9
  obtain ⟨q114, y9⟩ := He.ba y9
  obtain ⟨q115, y9⟩ := He.ba y9
  obtain ⟨q116, y9⟩ := He.ba y9
  obtain ⟨q117, y9⟩ := He.ba y9
  obtain ⟨q118, y9⟩ := He.ba y9
  have q119 := y9
  obtain ⟨q120, y10⟩ := He.ba y10
  obtain ⟨q121, y10⟩ := He.ba y10
  obtain ⟨q122, y10⟩ := He.ba y10
  obtain ⟨q123, y10⟩ := He.ba y10
  obtain ⟨q124, y10⟩ := He.ba y10
  obtain ⟨q125, y10⟩ := He.ba y10
  obtain ⟨q126, y10⟩ := He.ba y10
  obtain ⟨q127, y10⟩ := He.ba y10
  obtain ⟨q128, y10⟩ := He.ba y10
  have q129 := y10
  have e0 := c.def_ 0 (d := d__law_draw) rfl
  have e1 := c.def_ 1 (d := d_InvalidCommand_init) rfl
  have e2 := c.def_ 2 (d := d_InvalidText_init) rfl
  have e3 := c.def_ 3 (d := d_InvalidSide_init) rfl
  have e4 := c.def_ 4 (d := d_InvalidSign_init) rfl
  have e5 := c.def_ 5 (d := d_InvalidStyle_init) rfl
  have e6 := c.def_ 6 (d := d_InvalidRows_init) rfl
  have e7 := c.def_ 7 (d := d__law_first) rfl
  have e8 := c.def_ 8 (d := d_InvalidBands_init) rfl
  have e9 := c.def_ 9 (d := d_InvalidCell_init) rfl
  have e10 := c.def_ 10 (d := d_InvalidBox_init) rfl
  have e11 := c.def_ 11 (d := d_InvalidNumber_init) rfl
  have e12 := c.def_ 12 (d := d_InvalidLine_init) rfl
  have e13 := c.def_ 13 (d := d_NotAStream_init) rfl
  have e14 := c.def_ 14 (d := d_NotAScreen_init) rfl
  have e15 := c.def_ 15 (d := d__law_second) rfl
  have e16 := c.def_ 16 (d := d_TooManyCommands_init) rfl
  have e17 := c.def_ 17 (d := d_TooManyLetters_init) rfl
  have e18 := c.def_ 18 (d := d_TooManyStreams_init) rfl
  have e19 := c.def_ 19 (d := d_TooLarge_init) rfl
  have e20 := c.def_ 20 (d := d__law_third) rfl
  have e21 := c.def_ 21 (d := d__law_sort) rfl
  have e22 := c.def_ 22 (d := d__law_right) rfl
  have e23 := c.def_ 23 (d := d__law_pool) rfl
  have e24 := c.def_ 24 (d := d__law_cell) rfl
  have e25 := c.def_ 25 (d := d_law) rfl
  exact ⟨(He.free_ok X G q0),
    (He.free_ok X G q1),
    (He.free_ok X G q2),
    (He.free_ok X G q3),
    (He.free_ok X G q4),
    (He.free_ok X G q5),
    (He.free_ok X G q6),
    (He.free_ok X G q7),
    (He.free_ok X G q8),
    (He.free_ok X G q9),
    (He.free_ok X G q10),
    (He.free_ok X G q11),
    (He.free_ok X G q12),
    (He.free_ok X G q13),
    (He.free_ok X G q14),
    (He.free_ok X G q15),
    (He.free_ok X G q16),
    (He.free_ok X G q17),
    (He.free_ok X G q18),
    (He.free_ok X G q19),
    (He.free_ok X G q20),
    (He.glo_ok X G q21),
    (He.glo_ok X G q22),
    (He.glo_ok X G q23),
    (He.glo_ok X G q24),
    (He.glo_ok X G q25),
    (He.glo_ok X G q26),
    (He.glo_ok X G q27),
    (He.glo_ok X G q28),
    (He.glo_ok X G q29),
    (He.glo_ok X G q30),
    (He.glo_ok X G q31),
    (He.glo_ok X G q32),
    (He.glo_ok X G q33),
    (He.glo_ok X G q34),
    (He.glo_ok X G q35),
    (He.glo_ok X G q36),
    (He.glo_ok X G q37),
    (He.glo_ok X G q38),
    (He.glo_ok X G q39),
    (He.glo_ok X G q40),
    (He.glo_ok X G q41),
    (He.glo_ok X G q42),
    (He.glo_ok X G q43),
    (He.glo_ok X G q44),
    (He.glo_ok X G q45),
    (He.glo_ok X G q46),
    (He.glo_ok X G q47),
    (He.glo_ok X G q48),
    (He.glo_ok X G q49),
    (He.glo_ok X G q50),
    (He.glo_ok X G q51),
    (He.glo_ok X G q52),
    (He.int_ok X G q53),
    (He.int_ok X G q54),
    (He.int_ok X G q55),
    (He.int_ok X G q56),
    (He.int_ok X G q57),
    (He.int_ok X G q58),
    (He.int_ok X G q59),
    (He.int_ok X G q60),
    (He.int_ok X G q61),
    (q62),
    (q63),
    (q64),
    (q65),
    (q66),
    (q67),
    (xclsB_ok q68),
    (xclsB_ok q69),
    (xclsB_ok q70),
    (xclsB_ok q71),
    (xclsB_ok q72),
    (xclsB_ok q73),
    (xclsB_ok q74),
    (xclsB_ok q75),
    (xclsB_ok q76),
    (xclsB_ok q77),
    (xclsB_ok q78),
    (xclsB_ok q79),
    (xclsB_ok q80),
    (xclsB_ok q81),
    (xclsB_ok q82),
    (xclsB_ok q83),
    (xclsB_ok q84),
    (Option.isSome_iff_exists.mp q85),
    (xaAll_ok q86),
    (q87),
    (q88),
    (q89),
    (q90),
    (q91),
    (q92),
    (q93),
    (q94),
    (q95),
    (q96),
    (q97),
    (q98),
    (q99),
    (q100),
    (q101),
    (q102),
    (q103),
    (q104),
    (q105),
    (q106),
    (q107),
    (q108),
    (q109),
    (q110),
    (q111),
    (q112),
    (q113),
    (q114),
    (q115),
    (q116),
    (q117),
    (q118),
    (q119),
    (q120),
    (q121),
    (q122),
    (q123),
    (q124),
    (q125),
    (q126),
    (q127),
    (q128),
    (q129),
    e0,
    (let ⟨_, q⟩ := e0; q.kp),
    e1,
    (let ⟨_, q⟩ := e1; q.kp),
    e2,
    (let ⟨_, q⟩ := e2; q.kp),
    e3,
    (let ⟨_, q⟩ := e3; q.kp),
    e4,
    (let ⟨_, q⟩ := e4; q.kp),
    e5,
    (let ⟨_, q⟩ := e5; q.kp),
    e6,
    (let ⟨_, q⟩ := e6; q.kp),
    e7,
    (let ⟨_, q⟩ := e7; q.kp),
    e8,
    (let ⟨_, q⟩ := e8; q.kp),
    e9,
    (let ⟨_, q⟩ := e9; q.kp),
    e10,
    (let ⟨_, q⟩ := e10; q.kp),
    e11,
    (let ⟨_, q⟩ := e11; q.kp),
    e12,
    (let ⟨_, q⟩ := e12; q.kp),
    e13,
    (let ⟨_, q⟩ := e13; q.kp),
    e14,
    (let ⟨_, q⟩ := e14; q.kp),
    e15,
    (let ⟨_, q⟩ := e15; q.kp),
    e16,
    (let ⟨_, q⟩ := e16; q.kp),
    e17,
    (let ⟨_, q⟩ := e17; q.kp),
    e18,
    (let ⟨_, q⟩ := e18; q.kp),
    e19,
    (let ⟨_, q⟩ := e19; q.kp),
    e20,
    (let ⟨_, q⟩ := e20; q.kp),
    e21,
    (let ⟨_, q⟩ := e21; q.kp),
    e22,
    (let ⟨_, q⟩ := e22; q.kp),
    e23,
    (let ⟨_, q⟩ := e23; q.kp),
    e24,
    (let ⟨_, q⟩ := e24; q.kp),
    e25,
    (let ⟨_, q⟩ := e25; q.kp)⟩
end DL.K01
set_option Elab.async false
set_option linter.all false
set_option maxRecDepth 100000
set_option maxHeartbeats 0
namespace DL.K01
open PySem PySem.Spec PyProof.Rows L2 DL
section
variable {P : Program} {w : World} {K : Fr} {mg : Str → Option Value} {base : Heap}
theorem body__law_draw (h : Fx K mg base) : BodyOk P w K mg base 0 N__law_draw "_law_draw" (defScope s__law_draw) (d__law_draw.ad K) (defBody s__law_draw) b__law_draw := fun cd A outer s H E hr => by
  have nd := sc__law_draw.nd
  exact (dss_cons (ds_asg (de_add (de_ix (de_v 0) de_int) de_int) (dg_ix (de_v 0) de_int))
    (dss_cons (ds_set 2 nd (de_cint rfl h.f_int (da_cons (de_ix (de_v 0) de_int) da_nil)))
    (dss_cons (ds_asg (de_mod (de_cint rfl h.f_int (da_cons (de_add (de_add (de_mul (de_v 2) (de_add (de_mod (de_v 2) de_int) de_int)) (de_mul de_int (de_ix (de_v 0) de_int))) de_int) da_nil)) de_int) (dg_ix (de_v 0) de_int))
    (dss_cons (ds_if (dt_gt (de_ix (de_v 0) de_int) de_int) (dss_cons (ds_asg (de_divmod rfl h.f_divmod (da_cons (de_ix (de_v 0) de_int) (da_cons (de_v 1) da_nil))) (dg_tup rfl (dgs_cons (dg_ix (de_v 0) de_int) (dgs_cons (dg_n 3 nd) dgs_nil))))
    (dss_cons (ds_ret (de_v 3))
    dss_nil)) dss_nil)
    (dss_cons (ds_ret (de_mod (de_cint rfl h.f_int (da_cons (de_fdiv (de_ix (de_v 0) de_int) de_int) da_nil)) (de_v 1)))
    dss_nil)))))
theorem c__law_draw (h : Fx K mg base) : CD P w K mg base 1 (.ref (d__law_draw.ad K)) 2 [] g__law_draw := by
  obtain ⟨fd, F⟩ := h.fn__law_draw
  exact CD.pos true F sc__law_draw (body__law_draw h) (F.bindsN fun _ _ _ _ _ _ us hl => match us, hl with | [_, _], _ => rfl)
theorem xa_InvalidCommand (h : Fx K mg base) : XAll K mg 0 1 0 := by
  obtain ⟨fd, F⟩ := h.fn_InvalidCommand_init
  have B : Binds K fd ["self", "index"] [] := F.bindsN fun _ _ _ _ _ _ us hl => match us, hl with | [_, _], _ => rfl
  exact ⟨_, fd, "self", _, _, _, _, _, _, _, _, h.xc_InvalidCommand, F, sc_InvalidCommand_init, B, h.g_InvalidCommand, by decide +kernel, by decide +kernel, by decide +kernel, by decide +kernel, by decide +kernel⟩
theorem xk_InvalidCommand (h : Fx K mg base) : XAllK K mg 0 1 0 := by
  obtain ⟨fd, F⟩ := h.fn_InvalidCommand_init
  have B := kbindsN (ps := ["self", "index"]) F 1 ["index"] (fun us ws => us ++ ws) (fun r1 r2 => r1.append r2) (by
    intro kV doc pm an cdv ct us ws l1 l2
    match us, ws, l1, l2 with
    | [_], [_], _, _ => rfl)
  exact ⟨_, fd, "self", _, _, _, _, _, _, _, _, h.xc_InvalidCommand, F, sc_InvalidCommand_init, fun s u0 u1 X => B.to s [u0] [u1] X rfl rfl, h.g_InvalidCommand, by decide +kernel, by decide +kernel, by decide +kernel, by decide +kernel⟩
theorem xa_InvalidText (h : Fx K mg base) : XAll K mg 0 2 1 := by
  obtain ⟨fd, F⟩ := h.fn_InvalidText_init
  have B : Binds K fd ["self", "text"] [] := F.bindsN fun _ _ _ _ _ _ us hl => match us, hl with | [_, _], _ => rfl
  exact ⟨_, fd, "self", _, _, _, _, _, _, _, _, h.xc_InvalidText, F, sc_InvalidText_init, B, h.g_InvalidText, by decide +kernel, by decide +kernel, by decide +kernel, by decide +kernel, by decide +kernel⟩
theorem xk_InvalidText (h : Fx K mg base) : XAllK K mg 0 2 1 := by
  obtain ⟨fd, F⟩ := h.fn_InvalidText_init
  have B := kbindsN (ps := ["self", "text"]) F 1 ["text"] (fun us ws => us ++ ws) (fun r1 r2 => r1.append r2) (by
    intro kV doc pm an cdv ct us ws l1 l2
    match us, ws, l1, l2 with
    | [_], [_], _, _ => rfl)
  exact ⟨_, fd, "self", _, _, _, _, _, _, _, _, h.xc_InvalidText, F, sc_InvalidText_init, fun s u0 u1 X => B.to s [u0] [u1] X rfl rfl, h.g_InvalidText, by decide +kernel, by decide +kernel, by decide +kernel, by decide +kernel⟩
theorem xa_InvalidSide (h : Fx K mg base) : XAll K mg 0 3 2 := by
  obtain ⟨fd, F⟩ := h.fn_InvalidSide_init
  have B : Binds K fd ["self", "value"] [] := F.bindsN fun _ _ _ _ _ _ us hl => match us, hl with | [_, _], _ => rfl
  exact ⟨_, fd, "self", _, _, _, _, _, _, _, _, h.xc_InvalidSide, F, sc_InvalidSide_init, B, h.g_InvalidSide, by decide +kernel, by decide +kernel, by decide +kernel, by decide +kernel, by decide +kernel⟩
theorem xk_InvalidSide (h : Fx K mg base) : XAllK K mg 0 3 2 := by
  obtain ⟨fd, F⟩ := h.fn_InvalidSide_init
  have B := kbindsN (ps := ["self", "value"]) F 1 ["value"] (fun us ws => us ++ ws) (fun r1 r2 => r1.append r2) (by
    intro kV doc pm an cdv ct us ws l1 l2
    match us, ws, l1, l2 with
    | [_], [_], _, _ => rfl)
  exact ⟨_, fd, "self", _, _, _, _, _, _, _, _, h.xc_InvalidSide, F, sc_InvalidSide_init, fun s u0 u1 X => B.to s [u0] [u1] X rfl rfl, h.g_InvalidSide, by decide +kernel, by decide +kernel, by decide +kernel, by decide +kernel⟩
theorem xa_InvalidSign (h : Fx K mg base) : XAll K mg 0 4 3 := by
  obtain ⟨fd, F⟩ := h.fn_InvalidSign_init
  have B : Binds K fd ["self", "sign"] [] := F.bindsN fun _ _ _ _ _ _ us hl => match us, hl with | [_, _], _ => rfl
  exact ⟨_, fd, "self", _, _, _, _, _, _, _, _, h.xc_InvalidSign, F, sc_InvalidSign_init, B, h.g_InvalidSign, by decide +kernel, by decide +kernel, by decide +kernel, by decide +kernel, by decide +kernel⟩
theorem xk_InvalidSign (h : Fx K mg base) : XAllK K mg 0 4 3 := by
  obtain ⟨fd, F⟩ := h.fn_InvalidSign_init
  have B := kbindsN (ps := ["self", "sign"]) F 1 ["sign"] (fun us ws => us ++ ws) (fun r1 r2 => r1.append r2) (by
    intro kV doc pm an cdv ct us ws l1 l2
    match us, ws, l1, l2 with
    | [_], [_], _, _ => rfl)
  exact ⟨_, fd, "self", _, _, _, _, _, _, _, _, h.xc_InvalidSign, F, sc_InvalidSign_init, fun s u0 u1 X => B.to s [u0] [u1] X rfl rfl, h.g_InvalidSign, by decide +kernel, by decide +kernel, by decide +kernel, by decide +kernel⟩
theorem xa_InvalidStyle (h : Fx K mg base) : XAll K mg 0 5 4 := by
  obtain ⟨fd, F⟩ := h.fn_InvalidStyle_init
  have B : Binds K fd ["self", "style"] [] := F.bindsN fun _ _ _ _ _ _ us hl => match us, hl with | [_, _], _ => rfl
  exact ⟨_, fd, "self", _, _, _, _, _, _, _, _, h.xc_InvalidStyle, F, sc_InvalidStyle_init, B, h.g_InvalidStyle, by decide +kernel, by decide +kernel, by decide +kernel, by decide +kernel, by decide +kernel⟩
theorem xk_InvalidStyle (h : Fx K mg base) : XAllK K mg 0 5 4 := by
  obtain ⟨fd, F⟩ := h.fn_InvalidStyle_init
  have B := kbindsN (ps := ["self", "style"]) F 1 ["style"] (fun us ws => us ++ ws) (fun r1 r2 => r1.append r2) (by
    intro kV doc pm an cdv ct us ws l1 l2
    match us, ws, l1, l2 with
    | [_], [_], _, _ => rfl)
  exact ⟨_, fd, "self", _, _, _, _, _, _, _, _, h.xc_InvalidStyle, F, sc_InvalidStyle_init, fun s u0 u1 X => B.to s [u0] [u1] X rfl rfl, h.g_InvalidStyle, by decide +kernel, by decide +kernel, by decide +kernel, by decide +kernel⟩
theorem xa_InvalidRows (h : Fx K mg base) : XAll K mg 0 6 0 := by
  obtain ⟨fd, F⟩ := h.fn_InvalidRows_init
  have B : Binds K fd ["self", "index"] [] := F.bindsN fun _ _ _ _ _ _ us hl => match us, hl with | [_, _], _ => rfl
  exact ⟨_, fd, "self", _, _, _, _, _, _, _, _, h.xc_InvalidRows, F, sc_InvalidRows_init, B, h.g_InvalidRows, by decide +kernel, by decide +kernel, by decide +kernel, by decide +kernel, by decide +kernel⟩
theorem xk_InvalidRows (h : Fx K mg base) : XAllK K mg 0 6 0 := by
  obtain ⟨fd, F⟩ := h.fn_InvalidRows_init
  have B := kbindsN (ps := ["self", "index"]) F 1 ["index"] (fun us ws => us ++ ws) (fun r1 r2 => r1.append r2) (by
    intro kV doc pm an cdv ct us ws l1 l2
    match us, ws, l1, l2 with
    | [_], [_], _, _ => rfl)
  exact ⟨_, fd, "self", _, _, _, _, _, _, _, _, h.xc_InvalidRows, F, sc_InvalidRows_init, fun s u0 u1 X => B.to s [u0] [u1] X rfl rfl, h.g_InvalidRows, by decide +kernel, by decide +kernel, by decide +kernel, by decide +kernel⟩
theorem body__law_first (h : Fx K mg base) : BodyOk P w K mg base 2 N__law_first "_law_first" (defScope s__law_first) (d__law_first.ad K) (defBody s__law_first) b__law_first := fun cd A outer s H E hr => by
  have nd := sc__law_first.nd
  exact (dss_cons (ds_set 1 nd (de_lst (da_cons (de_call (callx_xc (xa_InvalidCommand h) (hr.mono (j := 2) (by decide))) rfl h.g_InvalidCommand h.xc_InvalidCommand.x.kp (da_cons (de_v 0) da_nil)) (da_cons (de_callk0 (ks := ["index"]) (callx_xck (xk_InvalidCommand h) (hr.mono (j := 2) (by decide)) rfl) rfl h.g_InvalidCommand h.xc_InvalidCommand.x.kp (dk_cons (de_v 0) dk_nil)) (da_cons (de_call (callx_xc (xa_InvalidText h) (hr.mono (j := 2) (by decide))) rfl h.g_InvalidText h.xc_InvalidText.x.kp (da_cons (de_v 0) da_nil)) (da_cons (de_callk0 (ks := ["text"]) (callx_xck (xk_InvalidText h) (hr.mono (j := 2) (by decide)) rfl) rfl h.g_InvalidText h.xc_InvalidText.x.kp (dk_cons (de_v 0) dk_nil)) da_nil))))))
    (dss_cons (ds_set 1 nd (de_add (de_v 1) (de_lst (da_cons (de_call (callx_xc (xa_InvalidSide h) (hr.mono (j := 2) (by decide))) rfl h.g_InvalidSide h.xc_InvalidSide.x.kp (da_cons (de_v 0) da_nil)) (da_cons (de_callk0 (ks := ["value"]) (callx_xck (xk_InvalidSide h) (hr.mono (j := 2) (by decide)) rfl) rfl h.g_InvalidSide h.xc_InvalidSide.x.kp (dk_cons (de_v 0) dk_nil)) (da_cons (de_call (callx_xc (xa_InvalidSign h) (hr.mono (j := 2) (by decide))) rfl h.g_InvalidSign h.xc_InvalidSign.x.kp (da_cons (de_v 0) da_nil)) (da_cons (de_callk0 (ks := ["sign"]) (callx_xck (xk_InvalidSign h) (hr.mono (j := 2) (by decide)) rfl) rfl h.g_InvalidSign h.xc_InvalidSign.x.kp (dk_cons (de_v 0) dk_nil)) da_nil)))))))
    (dss_cons (ds_set 1 nd (de_add (de_v 1) (de_lst (da_cons (de_call (callx_xc (xa_InvalidStyle h) (hr.mono (j := 2) (by decide))) rfl h.g_InvalidStyle h.xc_InvalidStyle.x.kp (da_cons (de_v 0) da_nil)) (da_cons (de_callk0 (ks := ["style"]) (callx_xck (xk_InvalidStyle h) (hr.mono (j := 2) (by decide)) rfl) rfl h.g_InvalidStyle h.xc_InvalidStyle.x.kp (dk_cons (de_v 0) dk_nil)) (da_cons (de_call (callx_xc (xa_InvalidRows h) (hr.mono (j := 2) (by decide))) rfl h.g_InvalidRows h.xc_InvalidRows.x.kp (da_cons (de_v 0) da_nil)) (da_cons (de_callk0 (ks := ["index"]) (callx_xck (xk_InvalidRows h) (hr.mono (j := 2) (by decide)) rfl) rfl h.g_InvalidRows h.xc_InvalidRows.x.kp (dk_cons (de_v 0) dk_nil)) da_nil)))))))
    (dss_cons (ds_set 2 nd (de_add (de_lc [("_law_e", 3)] rfl nd (di_seq (de_sl (de_v 1) do_n (do_s de_int))) (blkOk_by (N := N__law_first) (sc := defScope s__law_first) (by decide +kernel)) (fun _ _ _ _ _ => (dp_n 3 nd)) (fun _ _ _ _ _ => dts_nil) (fun _ _ _ _ _ => (de_xfld (i := 0) (cs := [1, 6, 7, 9]) (de_v 3) (xfB_ok (xm := [1, 2, 3, 4, 5, 6, 7, 8, 9, 10, 11, 12, 13, 15, 16, 17, 19, 20, 21, 22]) h.xaall (by decide) h.xf_index)))) (de_lc [("_law_e", 3)] rfl nd (di_seq (de_sl (de_v 1) (do_s de_int) (do_s de_int))) (blkOk_by (N := N__law_first) (sc := defScope s__law_first) (by decide +kernel)) (fun _ _ _ _ _ => (dp_n 3 nd)) (fun _ _ _ _ _ => dts_nil) (fun _ _ _ _ _ => (de_xfld (i := 1) (cs := [2]) (de_v 3) (xfB_ok (xm := [1, 2, 3, 4, 5, 6, 7, 8, 9, 10, 11, 12, 13, 15, 16, 17, 19, 20, 21, 22]) h.xaall (by decide) h.xf_text))))))
    (dss_cons (ds_set 2 nd (de_add (de_add (de_v 2) (de_lc [("_law_e", 3)] rfl nd (di_seq (de_sl (de_v 1) (do_s de_int) (do_s de_int))) (blkOk_by (N := N__law_first) (sc := defScope s__law_first) (by decide +kernel)) (fun _ _ _ _ _ => (dp_n 3 nd)) (fun _ _ _ _ _ => dts_nil) (fun _ _ _ _ _ => (de_xfld (i := 2) (cs := [3, 12, 13]) (de_v 3) (xfB_ok (xm := [1, 2, 3, 4, 5, 6, 7, 8, 9, 10, 11, 12, 13, 15, 16, 17, 19, 20, 21, 22]) h.xaall (by decide) h.xf_value))))) (de_lc [("_law_e", 3)] rfl nd (di_seq (de_sl (de_v 1) (do_s de_int) (do_s de_int))) (blkOk_by (N := N__law_first) (sc := defScope s__law_first) (by decide +kernel)) (fun _ _ _ _ _ => (dp_n 3 nd)) (fun _ _ _ _ _ => dts_nil) (fun _ _ _ _ _ => (de_xfld (i := 3) (cs := [4]) (de_v 3) (xfB_ok (xm := [1, 2, 3, 4, 5, 6, 7, 8, 9, 10, 11, 12, 13, 15, 16, 17, 19, 20, 21, 22]) h.xaall (by decide) h.xf_sign))))))
    (dss_cons (ds_set 2 nd (de_add (de_add (de_v 2) (de_lc [("_law_e", 3)] rfl nd (di_seq (de_sl (de_v 1) (do_s de_int) (do_s de_int))) (blkOk_by (N := N__law_first) (sc := defScope s__law_first) (by decide +kernel)) (fun _ _ _ _ _ => (dp_n 3 nd)) (fun _ _ _ _ _ => dts_nil) (fun _ _ _ _ _ => (de_xfld (i := 4) (cs := [5]) (de_v 3) (xfB_ok (xm := [1, 2, 3, 4, 5, 6, 7, 8, 9, 10, 11, 12, 13, 15, 16, 17, 19, 20, 21, 22]) h.xaall (by decide) h.xf_style))))) (de_lc [("_law_e", 3)] rfl nd (di_seq (de_sl (de_v 1) (do_s de_int) do_n)) (blkOk_by (N := N__law_first) (sc := defScope s__law_first) (by decide +kernel)) (fun _ _ _ _ _ => (dp_n 3 nd)) (fun _ _ _ _ _ => dts_nil) (fun _ _ _ _ _ => (de_xfld (i := 0) (cs := [1, 6, 7, 9]) (de_v 3) (xfB_ok (xm := [1, 2, 3, 4, 5, 6, 7, 8, 9, 10, 11, 12, 13, 15, 16, 17, 19, 20, 21, 22]) h.xaall (by decide) h.xf_index))))))
    (dss_cons (ds_ret (de_lst (da_cons (de_v 1) (da_cons (de_v 2) da_nil))))
    dss_nil)))))))
theorem c__law_first (h : Fx K mg base) : CD P w K mg base 3 (.ref (d__law_first.ad K)) 1 [] g__law_first := by
  obtain ⟨fd, F⟩ := h.fn__law_first
  exact CD.pos true F sc__law_first (body__law_first h) (F.bindsN fun _ _ _ _ _ _ us hl => match us, hl with | [_], _ => rfl)
theorem xa_InvalidBands (h : Fx K mg base) : XAll K mg 0 7 0 := by
  obtain ⟨fd, F⟩ := h.fn_InvalidBands_init
  have B : Binds K fd ["self", "index"] [] := F.bindsN fun _ _ _ _ _ _ us hl => match us, hl with | [_, _], _ => rfl
  exact ⟨_, fd, "self", _, _, _, _, _, _, _, _, h.xc_InvalidBands, F, sc_InvalidBands_init, B, h.g_InvalidBands, by decide +kernel, by decide +kernel, by decide +kernel, by decide +kernel, by decide +kernel⟩
theorem xk_InvalidBands (h : Fx K mg base) : XAllK K mg 0 7 0 := by
  obtain ⟨fd, F⟩ := h.fn_InvalidBands_init
  have B := kbindsN (ps := ["self", "index"]) F 1 ["index"] (fun us ws => us ++ ws) (fun r1 r2 => r1.append r2) (by
    intro kV doc pm an cdv ct us ws l1 l2
    match us, ws, l1, l2 with
    | [_], [_], _, _ => rfl)
  exact ⟨_, fd, "self", _, _, _, _, _, _, _, _, h.xc_InvalidBands, F, sc_InvalidBands_init, fun s u0 u1 X => B.to s [u0] [u1] X rfl rfl, h.g_InvalidBands, by decide +kernel, by decide +kernel, by decide +kernel, by decide +kernel⟩
theorem xa_InvalidCell (h : Fx K mg base) : XAll K mg 0 8 5 := by
  obtain ⟨fd, F⟩ := h.fn_InvalidCell_init
  have B : Binds K fd ["self", "cell"] [] := F.bindsN fun _ _ _ _ _ _ us hl => match us, hl with | [_, _], _ => rfl
  exact ⟨_, fd, "self", _, _, _, _, _, _, _, _, h.xc_InvalidCell, F, sc_InvalidCell_init, B, h.g_InvalidCell, by decide +kernel, by decide +kernel, by decide +kernel, by decide +kernel, by decide +kernel⟩
theorem xk_InvalidCell (h : Fx K mg base) : XAllK K mg 0 8 5 := by
  obtain ⟨fd, F⟩ := h.fn_InvalidCell_init
  have B := kbindsN (ps := ["self", "cell"]) F 1 ["cell"] (fun us ws => us ++ ws) (fun r1 r2 => r1.append r2) (by
    intro kV doc pm an cdv ct us ws l1 l2
    match us, ws, l1, l2 with
    | [_], [_], _, _ => rfl)
  exact ⟨_, fd, "self", _, _, _, _, _, _, _, _, h.xc_InvalidCell, F, sc_InvalidCell_init, fun s u0 u1 X => B.to s [u0] [u1] X rfl rfl, h.g_InvalidCell, by decide +kernel, by decide +kernel, by decide +kernel, by decide +kernel⟩
theorem xa_InvalidBox (h : Fx K mg base) : XAll K mg 0 9 0 := by
  obtain ⟨fd, F⟩ := h.fn_InvalidBox_init
  have B : Binds K fd ["self", "index"] [] := F.bindsN fun _ _ _ _ _ _ us hl => match us, hl with | [_, _], _ => rfl
  exact ⟨_, fd, "self", _, _, _, _, _, _, _, _, h.xc_InvalidBox, F, sc_InvalidBox_init, B, h.g_InvalidBox, by decide +kernel, by decide +kernel, by decide +kernel, by decide +kernel, by decide +kernel⟩
theorem xk_InvalidBox (h : Fx K mg base) : XAllK K mg 0 9 0 := by
  obtain ⟨fd, F⟩ := h.fn_InvalidBox_init
  have B := kbindsN (ps := ["self", "index"]) F 1 ["index"] (fun us ws => us ++ ws) (fun r1 r2 => r1.append r2) (by
    intro kV doc pm an cdv ct us ws l1 l2
    match us, ws, l1, l2 with
    | [_], [_], _, _ => rfl)
  exact ⟨_, fd, "self", _, _, _, _, _, _, _, _, h.xc_InvalidBox, F, sc_InvalidBox_init, fun s u0 u1 X => B.to s [u0] [u1] X rfl rfl, h.g_InvalidBox, by decide +kernel, by decide +kernel, by decide +kernel, by decide +kernel⟩
theorem xa_InvalidNumber (h : Fx K mg base) : XAll K mg 0 10 6 := by
  obtain ⟨fd, F⟩ := h.fn_InvalidNumber_init
  have B : Binds K fd ["self", "number"] [] := F.bindsN fun _ _ _ _ _ _ us hl => match us, hl with | [_, _], _ => rfl
  exact ⟨_, fd, "self", _, _, _, _, _, _, _, _, h.xc_InvalidNumber, F, sc_InvalidNumber_init, B, h.g_InvalidNumber, by decide +kernel, by decide +kernel, by decide +kernel, by decide +kernel, by decide +kernel⟩
theorem xk_InvalidNumber (h : Fx K mg base) : XAllK K mg 0 10 6 := by
  obtain ⟨fd, F⟩ := h.fn_InvalidNumber_init
  have B := kbindsN (ps := ["self", "number"]) F 1 ["number"] (fun us ws => us ++ ws) (fun r1 r2 => r1.append r2) (by
    intro kV doc pm an cdv ct us ws l1 l2
    match us, ws, l1, l2 with
    | [_], [_], _, _ => rfl)
  exact ⟨_, fd, "self", _, _, _, _, _, _, _, _, h.xc_InvalidNumber, F, sc_InvalidNumber_init, fun s u0 u1 X => B.to s [u0] [u1] X rfl rfl, h.g_InvalidNumber, by decide +kernel, by decide +kernel, by decide +kernel, by decide +kernel⟩
theorem xa_InvalidLine (h : Fx K mg base) : XAll K mg 0 11 7 := by
  obtain ⟨fd, F⟩ := h.fn_InvalidLine_init
  have B : Binds K fd ["self", "line"] [] := F.bindsN fun _ _ _ _ _ _ us hl => match us, hl with | [_, _], _ => rfl
  exact ⟨_, fd, "self", _, _, _, _, _, _, _, _, h.xc_InvalidLine, F, sc_InvalidLine_init, B, h.g_InvalidLine, by decide +kernel, by decide +kernel, by decide +kernel, by decide +kernel, by decide +kernel⟩
theorem xk_InvalidLine (h : Fx K mg base) : XAllK K mg 0 11 7 := by
  obtain ⟨fd, F⟩ := h.fn_InvalidLine_init
  have B := kbindsN (ps := ["self", "line"]) F 1 ["line"] (fun us ws => us ++ ws) (fun r1 r2 => r1.append r2) (by
    intro kV doc pm an cdv ct us ws l1 l2
    match us, ws, l1, l2 with
    | [_], [_], _, _ => rfl)
  exact ⟨_, fd, "self", _, _, _, _, _, _, _, _, h.xc_InvalidLine, F, sc_InvalidLine_init, fun s u0 u1 X => B.to s [u0] [u1] X rfl rfl, h.g_InvalidLine, by decide +kernel, by decide +kernel, by decide +kernel, by decide +kernel⟩
theorem xa_NotAStream (h : Fx K mg base) : XAll K mg 0 12 2 := by
  obtain ⟨fd, F⟩ := h.fn_NotAStream_init
  have B : Binds K fd ["self", "value"] [] := F.bindsN fun _ _ _ _ _ _ us hl => match us, hl with | [_, _], _ => rfl
  exact ⟨_, fd, "self", _, _, _, _, _, _, _, _, h.xc_NotAStream, F, sc_NotAStream_init, B, h.g_NotAStream, by decide +kernel, by decide +kernel, by decide +kernel, by decide +kernel, by decide +kernel⟩
theorem xk_NotAStream (h : Fx K mg base) : XAllK K mg 0 12 2 := by
  obtain ⟨fd, F⟩ := h.fn_NotAStream_init
  have B := kbindsN (ps := ["self", "value"]) F 1 ["value"] (fun us ws => us ++ ws) (fun r1 r2 => r1.append r2) (by
    intro kV doc pm an cdv ct us ws l1 l2
    match us, ws, l1, l2 with
    | [_], [_], _, _ => rfl)
  exact ⟨_, fd, "self", _, _, _, _, _, _, _, _, h.xc_NotAStream, F, sc_NotAStream_init, fun s u0 u1 X => B.to s [u0] [u1] X rfl rfl, h.g_NotAStream, by decide +kernel, by decide +kernel, by decide +kernel, by decide +kernel⟩
theorem xa_NotAScreen (h : Fx K mg base) : XAll K mg 0 13 2 := by
  obtain ⟨fd, F⟩ := h.fn_NotAScreen_init
  have B : Binds K fd ["self", "value"] [] := F.bindsN fun _ _ _ _ _ _ us hl => match us, hl with | [_, _], _ => rfl
  exact ⟨_, fd, "self", _, _, _, _, _, _, _, _, h.xc_NotAScreen, F, sc_NotAScreen_init, B, h.g_NotAScreen, by decide +kernel, by decide +kernel, by decide +kernel, by decide +kernel, by decide +kernel⟩
theorem xk_NotAScreen (h : Fx K mg base) : XAllK K mg 0 13 2 := by
  obtain ⟨fd, F⟩ := h.fn_NotAScreen_init
  have B := kbindsN (ps := ["self", "value"]) F 1 ["value"] (fun us ws => us ++ ws) (fun r1 r2 => r1.append r2) (by
    intro kV doc pm an cdv ct us ws l1 l2
    match us, ws, l1, l2 with
    | [_], [_], _, _ => rfl)
  exact ⟨_, fd, "self", _, _, _, _, _, _, _, _, h.xc_NotAScreen, F, sc_NotAScreen_init, fun s u0 u1 X => B.to s [u0] [u1] X rfl rfl, h.g_NotAScreen, by decide +kernel, by decide +kernel, by decide +kernel, by decide +kernel⟩
theorem body__law_second (h : Fx K mg base) : BodyOk P w K mg base 2 N__law_second "_law_second" (defScope s__law_second) (d__law_second.ad K) (defBody s__law_second) b__law_second := fun cd A outer s H E hr => by
  have nd := sc__law_second.nd
  exact (dss_cons (ds_set 1 nd (de_lst (da_cons (de_call (callx_xc (xa_InvalidBands h) (hr.mono (j := 2) (by decide))) rfl h.g_InvalidBands h.xc_InvalidBands.x.kp (da_cons (de_v 0) da_nil)) (da_cons (de_callk0 (ks := ["index"]) (callx_xck (xk_InvalidBands h) (hr.mono (j := 2) (by decide)) rfl) rfl h.g_InvalidBands h.xc_InvalidBands.x.kp (dk_cons (de_v 0) dk_nil)) (da_cons (de_call (callx_xc (xa_InvalidCell h) (hr.mono (j := 2) (by decide))) rfl h.g_InvalidCell h.xc_InvalidCell.x.kp (da_cons (de_v 0) da_nil)) (da_cons (de_callk0 (ks := ["cell"]) (callx_xck (xk_InvalidCell h) (hr.mono (j := 2) (by decide)) rfl) rfl h.g_InvalidCell h.xc_InvalidCell.x.kp (dk_cons (de_v 0) dk_nil)) da_nil))))))
    (dss_cons (ds_set 1 nd (de_add (de_v 1) (de_lst (da_cons (de_call (callx_xc (xa_InvalidBox h) (hr.mono (j := 2) (by decide))) rfl h.g_InvalidBox h.xc_InvalidBox.x.kp (da_cons (de_v 0) da_nil)) (da_cons (de_callk0 (ks := ["index"]) (callx_xck (xk_InvalidBox h) (hr.mono (j := 2) (by decide)) rfl) rfl h.g_InvalidBox h.xc_InvalidBox.x.kp (dk_cons (de_v 0) dk_nil)) (da_cons (de_call (callx_xc (xa_InvalidNumber h) (hr.mono (j := 2) (by decide))) rfl h.g_InvalidNumber h.xc_InvalidNumber.x.kp (da_cons (de_v 0) da_nil)) (da_cons (de_callk0 (ks := ["number"]) (callx_xck (xk_InvalidNumber h) (hr.mono (j := 2) (by decide)) rfl) rfl h.g_InvalidNumber h.xc_InvalidNumber.x.kp (dk_cons (de_v 0) dk_nil)) da_nil)))))))
    (dss_cons (ds_set 1 nd (de_add (de_v 1) (de_lst (da_cons (de_call (callx_xc (xa_InvalidLine h) (hr.mono (j := 2) (by decide))) rfl h.g_InvalidLine h.xc_InvalidLine.x.kp (da_cons (de_v 0) da_nil)) (da_cons (de_callk0 (ks := ["line"]) (callx_xck (xk_InvalidLine h) (hr.mono (j := 2) (by decide)) rfl) rfl h.g_InvalidLine h.xc_InvalidLine.x.kp (dk_cons (de_v 0) dk_nil)) (da_cons (de_call (callx_xc (xa_NotAStream h) (hr.mono (j := 2) (by decide))) rfl h.g_NotAStream h.xc_NotAStream.x.kp (da_cons (de_v 0) da_nil)) (da_cons (de_callk0 (ks := ["value"]) (callx_xck (xk_NotAStream h) (hr.mono (j := 2) (by decide)) rfl) rfl h.g_NotAStream h.xc_NotAStream.x.kp (dk_cons (de_v 0) dk_nil)) da_nil)))))))
    (dss_cons (ds_set 1 nd (de_add (de_v 1) (de_lst (da_cons (de_call (callx_xc (xa_NotAScreen h) (hr.mono (j := 2) (by decide))) rfl h.g_NotAScreen h.xc_NotAScreen.x.kp (da_cons (de_v 0) da_nil)) (da_cons (de_callk0 (ks := ["value"]) (callx_xck (xk_NotAScreen h) (hr.mono (j := 2) (by decide)) rfl) rfl h.g_NotAScreen h.xc_NotAScreen.x.kp (dk_cons (de_v 0) dk_nil)) da_nil)))))
    (dss_cons (ds_set 2 nd (de_add (de_lc [("_law_e", 3)] rfl nd (di_seq (de_sl (de_v 1) do_n (do_s de_int))) (blkOk_by (N := N__law_second) (sc := defScope s__law_second) (by decide +kernel)) (fun _ _ _ _ _ => (dp_n 3 nd)) (fun _ _ _ _ _ => dts_nil) (fun _ _ _ _ _ => (de_xfld (i := 0) (cs := [1, 6, 7, 9]) (de_v 3) (xfB_ok (xm := [1, 2, 3, 4, 5, 6, 7, 8, 9, 10, 11, 12, 13, 15, 16, 17, 19, 20, 21, 22]) h.xaall (by decide) h.xf_index)))) (de_lc [("_law_e", 3)] rfl nd (di_seq (de_sl (de_v 1) (do_s de_int) (do_s de_int))) (blkOk_by (N := N__law_second) (sc := defScope s__law_second) (by decide +kernel)) (fun _ _ _ _ _ => (dp_n 3 nd)) (fun _ _ _ _ _ => dts_nil) (fun _ _ _ _ _ => (de_xfld (i := 5) (cs := [8]) (de_v 3) (xfB_ok (xm := [1, 2, 3, 4, 5, 6, 7, 8, 9, 10, 11, 12, 13, 15, 16, 17, 19, 20, 21, 22]) h.xaall (by decide) h.xf_cell))))))
    (dss_cons (ds_set 2 nd (de_add (de_add (de_v 2) (de_lc [("_law_e", 3)] rfl nd (di_seq (de_sl (de_v 1) (do_s de_int) (do_s de_int))) (blkOk_by (N := N__law_second) (sc := defScope s__law_second) (by decide +kernel)) (fun _ _ _ _ _ => (dp_n 3 nd)) (fun _ _ _ _ _ => dts_nil) (fun _ _ _ _ _ => (de_xfld (i := 0) (cs := [1, 6, 7, 9]) (de_v 3) (xfB_ok (xm := [1, 2, 3, 4, 5, 6, 7, 8, 9, 10, 11, 12, 13, 15, 16, 17, 19, 20, 21, 22]) h.xaall (by decide) h.xf_index))))) (de_lc [("_law_e", 3)] rfl nd (di_seq (de_sl (de_v 1) (do_s de_int) (do_s de_int))) (blkOk_by (N := N__law_second) (sc := defScope s__law_second) (by decide +kernel)) (fun _ _ _ _ _ => (dp_n 3 nd)) (fun _ _ _ _ _ => dts_nil) (fun _ _ _ _ _ => (de_xfld (i := 6) (cs := [10]) (de_v 3) (xfB_ok (xm := [1, 2, 3, 4, 5, 6, 7, 8, 9, 10, 11, 12, 13, 15, 16, 17, 19, 20, 21, 22]) h.xaall (by decide) h.xf_number))))))
    (dss_cons (ds_set 2 nd (de_add (de_add (de_v 2) (de_lc [("_law_e", 3)] rfl nd (di_seq (de_sl (de_v 1) (do_s de_int) (do_s de_int))) (blkOk_by (N := N__law_second) (sc := defScope s__law_second) (by decide +kernel)) (fun _ _ _ _ _ => (dp_n 3 nd)) (fun _ _ _ _ _ => dts_nil) (fun _ _ _ _ _ => (de_xfld (i := 7) (cs := [11]) (de_v 3) (xfB_ok (xm := [1, 2, 3, 4, 5, 6, 7, 8, 9, 10, 11, 12, 13, 15, 16, 17, 19, 20, 21, 22]) h.xaall (by decide) h.xf_line))))) (de_lc [("_law_e", 3)] rfl nd (di_seq (de_sl (de_v 1) (do_s de_int) do_n)) (blkOk_by (N := N__law_second) (sc := defScope s__law_second) (by decide +kernel)) (fun _ _ _ _ _ => (dp_n 3 nd)) (fun _ _ _ _ _ => dts_nil) (fun _ _ _ _ _ => (de_xfld (i := 2) (cs := [3, 12, 13]) (de_v 3) (xfB_ok (xm := [1, 2, 3, 4, 5, 6, 7, 8, 9, 10, 11, 12, 13, 15, 16, 17, 19, 20, 21, 22]) h.xaall (by decide) h.xf_value))))))
    (dss_cons (ds_ret (de_lst (da_cons (de_v 1) (da_cons (de_v 2) da_nil))))
    dss_nil))))))))
theorem c__law_second (h : Fx K mg base) : CD P w K mg base 3 (.ref (d__law_second.ad K)) 1 [] g__law_second := by
  obtain ⟨fd, F⟩ := h.fn__law_second
  exact CD.pos true F sc__law_second (body__law_second h) (F.bindsN fun _ _ _ _ _ _ us hl => match us, hl with | [_], _ => rfl)
theorem xa_TooManyCommands (h : Fx K mg base) : XAll K mg 2 19 8 := by
  obtain ⟨fd, F⟩ := h.fn_TooManyCommands_init
  have B : Binds K fd ["self", "found"] [] := F.bindsN fun _ _ _ _ _ _ us hl => match us, hl with | [_, _], _ => rfl
  exact ⟨_, fd, "self", _, _, _, _, _, _, _, _, h.xc_TooManyCommands, F, sc_TooManyCommands_init, B, h.g_TooManyCommands, by decide +kernel, by decide +kernel, by decide +kernel, by decide +kernel, by decide +kernel⟩
theorem xk_TooManyCommands (h : Fx K mg base) : XAllK K mg 2 19 8 := by
  obtain ⟨fd, F⟩ := h.fn_TooManyCommands_init
  have B := kbindsN (ps := ["self", "found"]) F 1 ["found"] (fun us ws => us ++ ws) (fun r1 r2 => r1.append r2) (by
    intro kV doc pm an cdv ct us ws l1 l2
    match us, ws, l1, l2 with
    | [_], [_], _, _ => rfl)
  exact ⟨_, fd, "self", _, _, _, _, _, _, _, _, h.xc_TooManyCommands, F, sc_TooManyCommands_init, fun s u0 u1 X => B.to s [u0] [u1] X rfl rfl, h.g_TooManyCommands, by decide +kernel, by decide +kernel, by decide +kernel, by decide +kernel⟩
theorem xa_TooManyLetters (h : Fx K mg base) : XAll K mg 2 20 8 := by
  obtain ⟨fd, F⟩ := h.fn_TooManyLetters_init
  have B : Binds K fd ["self", "found"] [] := F.bindsN fun _ _ _ _ _ _ us hl => match us, hl with | [_, _], _ => rfl
  exact ⟨_, fd, "self", _, _, _, _, _, _, _, _, h.xc_TooManyLetters, F, sc_TooManyLetters_init, B, h.g_TooManyLetters, by decide +kernel, by decide +kernel, by decide +kernel, by decide +kernel, by decide +kernel⟩
theorem xk_TooManyLetters (h : Fx K mg base) : XAllK K mg 2 20 8 := by
  obtain ⟨fd, F⟩ := h.fn_TooManyLetters_init
  have B := kbindsN (ps := ["self", "found"]) F 1 ["found"] (fun us ws => us ++ ws) (fun r1 r2 => r1.append r2) (by
    intro kV doc pm an cdv ct us ws l1 l2
    match us, ws, l1, l2 with
    | [_], [_], _, _ => rfl)
  exact ⟨_, fd, "self", _, _, _, _, _, _, _, _, h.xc_TooManyLetters, F, sc_TooManyLetters_init, fun s u0 u1 X => B.to s [u0] [u1] X rfl rfl, h.g_TooManyLetters, by decide +kernel, by decide +kernel, by decide +kernel, by decide +kernel⟩
theorem xa_TooManyStreams (h : Fx K mg base) : XAll K mg 2 21 9 := by
  obtain ⟨fd, F⟩ := h.fn_TooManyStreams_init
  have B : Binds K fd ["self", "limit"] [] := F.bindsN fun _ _ _ _ _ _ us hl => match us, hl with | [_, _], _ => rfl
  exact ⟨_, fd, "self", _, _, _, _, _, _, _, _, h.xc_TooManyStreams, F, sc_TooManyStreams_init, B, h.g_TooManyStreams, by decide +kernel, by decide +kernel, by decide +kernel, by decide +kernel, by decide +kernel⟩
theorem xk_TooManyStreams (h : Fx K mg base) : XAllK K mg 2 21 9 := by
  obtain ⟨fd, F⟩ := h.fn_TooManyStreams_init
  have B := kbindsN (ps := ["self", "limit"]) F 1 ["limit"] (fun us ws => us ++ ws) (fun r1 r2 => r1.append r2) (by
    intro kV doc pm an cdv ct us ws l1 l2
    match us, ws, l1, l2 with
    | [_], [_], _, _ => rfl)
  exact ⟨_, fd, "self", _, _, _, _, _, _, _, _, h.xc_TooManyStreams, F, sc_TooManyStreams_init, fun s u0 u1 X => B.to s [u0] [u1] X rfl rfl, h.g_TooManyStreams, by decide +kernel, by decide +kernel, by decide +kernel, by decide +kernel⟩
theorem xa_TooLarge (h : Fx K mg base) : XAll K mg 2 22 10 := by
  obtain ⟨fd, F⟩ := h.fn_TooLarge_init
  have B : Binds K fd ["self", "cells"] [] := F.bindsN fun _ _ _ _ _ _ us hl => match us, hl with | [_, _], _ => rfl
  exact ⟨_, fd, "self", _, _, _, _, _, _, _, _, h.xc_TooLarge, F, sc_TooLarge_init, B, h.g_TooLarge, by decide +kernel, by decide +kernel, by decide +kernel, by decide +kernel, by decide +kernel⟩
theorem xk_TooLarge (h : Fx K mg base) : XAllK K mg 2 22 10 := by
  obtain ⟨fd, F⟩ := h.fn_TooLarge_init
  have B := kbindsN (ps := ["self", "cells"]) F 1 ["cells"] (fun us ws => us ++ ws) (fun r1 r2 => r1.append r2) (by
    intro kV doc pm an cdv ct us ws l1 l2
    match us, ws, l1, l2 with
    | [_], [_], _, _ => rfl)
  exact ⟨_, fd, "self", _, _, _, _, _, _, _, _, h.xc_TooLarge, F, sc_TooLarge_init, fun s u0 u1 X => B.to s [u0] [u1] X rfl rfl, h.g_TooLarge, by decide +kernel, by decide +kernel, by decide +kernel, by decide +kernel⟩
theorem body__law_third (h : Fx K mg base) : BodyOk P w K mg base 2 N__law_third "_law_third" (defScope s__law_third) (d__law_third.ad K) (defBody s__law_third) b__law_third := fun cd A outer s H E hr => by
  have nd := sc__law_third.nd
  exact (dss_cons (ds_set 1 nd (de_lst (da_cons (de_call (callx_xc (xa_TooManyCommands h) (hr.mono (j := 2) (by decide))) rfl h.g_TooManyCommands h.xc_TooManyCommands.x.kp (da_cons (de_v 0) da_nil)) (da_cons (de_callk0 (ks := ["found"]) (callx_xck (xk_TooManyCommands h) (hr.mono (j := 2) (by decide)) rfl) rfl h.g_TooManyCommands h.xc_TooManyCommands.x.kp (dk_cons (de_v 0) dk_nil)) (da_cons (de_call (callx_xc (xa_TooManyLetters h) (hr.mono (j := 2) (by decide))) rfl h.g_TooManyLetters h.xc_TooManyLetters.x.kp (da_cons (de_v 0) da_nil)) (da_cons (de_callk0 (ks := ["found"]) (callx_xck (xk_TooManyLetters h) (hr.mono (j := 2) (by decide)) rfl) rfl h.g_TooManyLetters h.xc_TooManyLetters.x.kp (dk_cons (de_v 0) dk_nil)) da_nil))))))
    (dss_cons (ds_set 1 nd (de_add (de_v 1) (de_lst (da_cons (de_call (callx_xc (xa_TooManyStreams h) (hr.mono (j := 2) (by decide))) rfl h.g_TooManyStreams h.xc_TooManyStreams.x.kp (da_cons (de_v 0) da_nil)) (da_cons (de_callk0 (ks := ["limit"]) (callx_xck (xk_TooManyStreams h) (hr.mono (j := 2) (by decide)) rfl) rfl h.g_TooManyStreams h.xc_TooManyStreams.x.kp (dk_cons (de_v 0) dk_nil)) (da_cons (de_call (callx_xc (xa_TooLarge h) (hr.mono (j := 2) (by decide))) rfl h.g_TooLarge h.xc_TooLarge.x.kp (da_cons (de_v 0) da_nil)) (da_cons (de_callk0 (ks := ["cells"]) (callx_xck (xk_TooLarge h) (hr.mono (j := 2) (by decide)) rfl) rfl h.g_TooLarge h.xc_TooLarge.x.kp (dk_cons (de_v 0) dk_nil)) da_nil)))))))
    (dss_cons (ds_set 2 nd (de_add (de_lc [("_law_e", 3)] rfl nd (di_seq (de_sl (de_v 1) do_n (do_s de_int))) (blkOk_by (N := N__law_third) (sc := defScope s__law_third) (by decide +kernel)) (fun _ _ _ _ _ => (dp_n 3 nd)) (fun _ _ _ _ _ => dts_nil) (fun _ _ _ _ _ => (de_xfld (i := 8) (cs := [19, 20]) (de_v 3) (xfB_ok (xm := [1, 2, 3, 4, 5, 6, 7, 8, 9, 10, 11, 12, 13, 15, 16, 17, 19, 20, 21, 22]) h.xaall (by decide) h.xf_found)))) (de_lc [("_law_e", 3)] rfl nd (di_seq (de_sl (de_v 1) (do_s de_int) (do_s de_int))) (blkOk_by (N := N__law_third) (sc := defScope s__law_third) (by decide +kernel)) (fun _ _ _ _ _ => (dp_n 3 nd)) (fun _ _ _ _ _ => dts_nil) (fun _ _ _ _ _ => (de_xfld (i := 9) (cs := [21]) (de_v 3) (xfB_ok (xm := [1, 2, 3, 4, 5, 6, 7, 8, 9, 10, 11, 12, 13, 15, 16, 17, 19, 20, 21, 22]) h.xaall (by decide) h.xf_limit))))))
    (dss_cons (ds_set 2 nd (de_add (de_v 2) (de_lc [("_law_e", 3)] rfl nd (di_seq (de_sl (de_v 1) (do_s de_int) do_n)) (blkOk_by (N := N__law_third) (sc := defScope s__law_third) (by decide +kernel)) (fun _ _ _ _ _ => (dp_n 3 nd)) (fun _ _ _ _ _ => dts_nil) (fun _ _ _ _ _ => (de_xfld (i := 10) (cs := [22]) (de_v 3) (xfB_ok (xm := [1, 2, 3, 4, 5, 6, 7, 8, 9, 10, 11, 12, 13, 15, 16, 17, 19, 20, 21, 22]) h.xaall (by decide) h.xf_cells))))))
    (dss_cons (ds_ret (de_lst (da_cons (de_v 1) (da_cons (de_v 2) da_nil))))
    dss_nil)))))
theorem c__law_third (h : Fx K mg base) : CD P w K mg base 3 (.ref (d__law_third.ad K)) 1 [] g__law_third := by
  obtain ⟨fd, F⟩ := h.fn__law_third
  exact CD.pos true F sc__law_third (body__law_third h) (F.bindsN fun _ _ _ _ _ _ us hl => match us, hl with | [_], _ => rfl)
theorem body__law_sort (h : Fx K mg base) : BodyOk P w K mg base 0 N__law_sort "_law_sort" (defScope s__law_sort) (d__law_sort.ad K) (defBody s__law_sort) b__law_sort := fun cd A outer s H E hr => by
  have nd := sc__law_sort.nd
  exact (dss_cons (ds_set 1 nd (de_lst (da_cons (de_isiE rfl h.f_isinstance rfl h.g_InvalidCommand h.ie_InvalidCommand h.xaall (by decide) (de_v 0)) (da_cons (de_isiE rfl h.f_isinstance rfl h.g_InvalidText h.ie_InvalidText h.xaall (by decide) (de_v 0)) (da_cons (de_isiE rfl h.f_isinstance rfl h.g_InvalidSide h.ie_InvalidSide h.xaall (by decide) (de_v 0)) da_nil)))))
    (dss_cons (ds_set 1 nd (de_add (de_v 1) (de_lst (da_cons (de_isiE rfl h.f_isinstance rfl h.g_InvalidSign h.ie_InvalidSign h.xaall (by decide) (de_v 0)) (da_cons (de_isiE rfl h.f_isinstance rfl h.g_InvalidStyle h.ie_InvalidStyle h.xaall (by decide) (de_v 0)) (da_cons (de_isiE rfl h.f_isinstance rfl h.g_InvalidRows h.ie_InvalidRows h.xaall (by decide) (de_v 0)) da_nil))))))
    (dss_cons (ds_set 1 nd (de_add (de_v 1) (de_lst (da_cons (de_isiE rfl h.f_isinstance rfl h.g_InvalidBands h.ie_InvalidBands h.xaall (by decide) (de_v 0)) (da_cons (de_isiE rfl h.f_isinstance rfl h.g_InvalidCell h.ie_InvalidCell h.xaall (by decide) (de_v 0)) (da_cons (de_isiE rfl h.f_isinstance rfl h.g_InvalidBox h.ie_InvalidBox h.xaall (by decide) (de_v 0)) da_nil))))))
    (dss_cons (ds_set 1 nd (de_add (de_v 1) (de_lst (da_cons (de_isiE rfl h.f_isinstance rfl h.g_InvalidNumber h.ie_InvalidNumber h.xaall (by decide) (de_v 0)) (da_cons (de_isiE rfl h.f_isinstance rfl h.g_InvalidLine h.ie_InvalidLine h.xaall (by decide) (de_v 0)) (da_cons (de_isiE rfl h.f_isinstance rfl h.g_NotAStream h.ie_NotAStream h.xaall (by decide) (de_v 0)) da_nil))))))
    (dss_cons (ds_set 1 nd (de_add (de_v 1) (de_lst (da_cons (de_isiE rfl h.f_isinstance rfl h.g_NotAScreen h.ie_NotAScreen h.xaall (by decide) (de_v 0)) (da_cons (de_isiE rfl h.f_isinstance rfl h.g_OtherSize h.ie_OtherSize h.xaall (by decide) (de_v 0)) (da_cons (de_isiE rfl h.f_isinstance rfl h.g_Busy h.ie_Busy h.xaall (by decide) (de_v 0)) da_nil))))))
    (dss_cons (ds_set 1 nd (de_add (de_v 1) (de_lst (da_cons (de_isiE rfl h.f_isinstance rfl h.g_NothingToUndo h.ie_NothingToUndo h.xaall (by decide) (de_v 0)) (da_cons (de_isiE rfl h.f_isinstance rfl h.g_TooManyCommands h.ie_TooManyCommands h.xaall (by decide) (de_v 0)) da_nil)))))
    (dss_cons (ds_set 1 nd (de_add (de_v 1) (de_lst (da_cons (de_isiE rfl h.f_isinstance rfl h.g_TooManyLetters h.ie_TooManyLetters h.xaall (by decide) (de_v 0)) da_nil))))
    (dss_cons (ds_set 1 nd (de_add (de_v 1) (de_lst (da_cons (de_isiE rfl h.f_isinstance rfl h.g_TooManyStreams h.ie_TooManyStreams h.xaall (by decide) (de_v 0)) (da_cons (de_isiE rfl h.f_isinstance rfl h.g_TooLarge h.ie_TooLarge h.xaall (by decide) (de_v 0)) da_nil)))))
    (dss_cons (ds_set 2 nd (de_lst (da_cons (de_isiE rfl h.f_isinstance rfl h.g_ScreenError h.ie_ScreenError h.xaall (by decide) (de_v 0)) (da_cons (de_isiE rfl h.f_isinstance rfl h.g_FindError h.ie_FindError h.xaall (by decide) (de_v 0)) (da_cons (de_isiE rfl h.f_isinstance rfl h.g_LimitError h.ie_LimitError h.xaall (by decide) (de_v 0)) da_nil)))))
    (dss_cons (ds_set 3 nd (de_lst (da_cons (de_isiEB "ValueError" rfl h.f_isinstance rfl h.f_ValueError (by decide +kernel) h.ieb_ValueError h.xaall (by decide) (de_v 0)) (da_cons (de_isiEB "LookupError" rfl h.f_isinstance rfl h.f_LookupError (by decide +kernel) h.ieb_LookupError h.xaall (by decide) (de_v 0)) (da_cons (de_isiEB "ArithmeticError" rfl h.f_isinstance rfl h.f_ArithmeticError (by decide +kernel) h.ieb_ArithmeticError h.xaall (by decide) (de_v 0)) da_nil)))))
    (dss_cons (ds_if (dt_w (dw_or (dt_ne hr.r.units (de_lcount (de_v 1) de_bl) de_int) (dw_or1 (dt_ne hr.r.units (de_v 3) (de_v 2))))) (dss_cons (ds_ret (de_sub de_int de_int))
    dss_nil) dss_nil)
    (dss_cons (ds_set 4 nd (de_lindex (de_v 1) de_bl))
    (dss_cons (ds_ret (de_if (dt_eq hr.r.units (de_v 2) (de_lst (da_cons (de_lt (de_v 4) de_int) (da_cons (de_ltlt de_int (de_v 4) de_int) (da_cons (de_gt (de_v 4) de_int) da_nil))))) (de_v 4) (de_sub de_int de_int)))
    dss_nil)))))))))))))
theorem c__law_sort (h : Fx K mg base) : CD P w K mg base 1 (.ref (d__law_sort.ad K)) 1 [] g__law_sort := by
  obtain ⟨fd, F⟩ := h.fn__law_sort
  exact CD.pos true F sc__law_sort (body__law_sort h) (F.bindsN fun _ _ _ _ _ _ us hl => match us, hl with | [_], _ => rfl)
theorem body__law_right (h : Fx K mg base) : BodyOk P w K mg base 3 N__law_right "_law_right" (defScope s__law_right) (d__law_right.ad K) (defBody s__law_right) b__law_right := fun cd A outer s H E hr => by
  have nd := sc__law_right.nd
  exact (dss_cons (ds_set 1 nd (de_lst (da_cons de_non (da_cons de_int (da_cons de_bl (da_cons (de_str (l := [105, 110, 100, 101, 120]) (by decide +kernel)) (da_cons (de_tup (da_cons de_int (da_cons de_int da_nil))) (da_cons (de_lst (da_cons de_int da_nil)) (da_cons de_dic (da_cons (de_pow de_int de_int) (da_cons (de_sub de_int de_int) (da_cons (de_tup (da_cons (de_str (l := [117, 112]) (by decide +kernel)) da_nil)) da_nil))))))))))))
    (dss_cons (ds_set 2 nd (de_ix (de_v 1) (de_call ((c__law_draw h).x (hr.mono (j := 1) (by decide)) takesB) rfl h.g__law_draw h.kp__law_draw (da_cons (de_v 0) (da_cons de_int da_nil)))))
    (dss_cons (ds_par2 7 8 rfl nd (da_cons (de_call ((c__law_first h).x (hr.mono (j := 3) (by decide)) takesB) rfl h.g__law_first h.kp__law_first (da_cons (de_v 2) da_nil)) (da_cons (de_call ((c__law_second h).x (hr.mono (j := 3) (by decide)) takesB) rfl h.g__law_second h.kp__law_second (da_cons (de_v 2) da_nil)) da_nil)))
    (dss_cons (ds_set 3 nd (de_call ((c__law_third h).x (hr.mono (j := 3) (by decide)) takesB) rfl h.g__law_third h.kp__law_third (da_cons (de_v 2) da_nil)))
    (dss_cons (ds_for passB rfl (di_seq (de_lst (da_cons (de_v 7) (da_cons (de_v 8) (da_cons (de_v 3) da_nil))))) (dg_tupL rfl (dgs_cons (dg_n 9 nd) (dgs_cons (dg_n 10 nd) dgs_nil))) (dss_cons (ds_if (dt_ne hr.r.units (de_len rfl h.f_len (da_cons (de_v 9) da_nil)) (de_len rfl h.f_len (da_cons (de_v 10) da_nil))) (dss_cons (ds_ret de_bl)
    dss_nil) dss_nil)
    (dss_cons (ds_if (dt_not (dt_val (de_all rfl rfl h.f_all (da_cons (de_lc [("_law_value_here", 12)] rfl nd (di_seq (de_v 10)) (blkOk_by (N := N__law_right) (sc := defScope s__law_right) (by decide +kernel)) (fun _ _ _ _ _ => (dp_n 12 nd)) (fun _ _ _ _ _ => dts_nil) (fun _ _ _ _ _ => (de_eq hr.r.units (de_reprY hr.g hr.r.units h.sysm rfl h.f_repr (de_v 12)) (de_reprY hr.g hr.r.units h.sysm rfl h.f_repr (de_v 2))))) da_nil)))) (dss_cons (ds_ret de_bl)
    dss_nil) dss_nil)
    dss_nil)))
    (dss_cons (ds_set 4 nd (de_add (de_add (de_ix (de_v 7) de_int) (de_ix (de_v 8) de_int)) (de_ix (de_v 3) de_int)))
    (dss_cons (ds_if (dt_val (de_any rfl rfl h.f_any (da_cons (de_lc [("_law_e", 11)] rfl nd (di_seq (de_v 4)) (blkOk_by (N := N__law_right) (sc := defScope s__law_right) (by decide +kernel)) (fun _ _ _ _ _ => (dp_n 11 nd)) (fun _ _ _ _ _ => dts_nil) (fun _ _ _ _ _ => (de_or (de_isiEB "KeyError" rfl h.f_isinstance rfl h.f_KeyError (by decide +kernel) h.ieb_KeyError h.xaall (by decide) (de_v 11)) (de_one (de_isiEB "IndexError" rfl h.f_isinstance rfl h.f_IndexError (by decide +kernel) h.ieb_IndexError h.xaall (by decide) (de_v 11)))))) da_nil))) (dss_cons (ds_ret de_bl)
    dss_nil) dss_nil)
    (dss_cons (ds_if (dt_val (de_any rfl rfl h.f_any (da_cons (de_lc [("_law_e", 11)] rfl nd (di_seq (de_v 4)) (blkOk_by (N := N__law_right) (sc := defScope s__law_right) (by decide +kernel)) (fun _ _ _ _ _ => (dp_n 11 nd)) (fun _ _ _ _ _ => dts_nil) (fun _ _ _ _ _ => (de_or (de_isiEB "OverflowError" rfl h.f_isinstance rfl h.f_OverflowError (by decide +kernel) h.ieb_OverflowError h.xaall (by decide) (de_v 11)) (de_one (de_isiEB "ZeroDivisionError" rfl h.f_isinstance rfl h.f_ZeroDivisionError (by decide +kernel) h.ieb_ZeroDivisionError h.xaall (by decide) (de_v 11)))))) da_nil))) (dss_cons (ds_ret de_bl)
    dss_nil) dss_nil)
    (dss_cons (ds_if (dt_val (de_any rfl rfl h.f_any (da_cons (de_lc [("_law_e", 11)] rfl nd (di_seq (de_v 4)) (blkOk_by (N := N__law_right) (sc := defScope s__law_right) (by decide +kernel)) (fun _ _ _ _ _ => (dp_n 11 nd)) (fun _ _ _ _ _ => dts_nil) (fun _ _ _ _ _ => (de_or (de_isiEB "TypeError" rfl h.f_isinstance rfl h.f_TypeError (by decide +kernel) h.ieb_TypeError h.xaall (by decide) (de_v 11)) (de_one (de_isiEB "RuntimeError" rfl h.f_isinstance rfl h.f_RuntimeError (by decide +kernel) h.ieb_RuntimeError h.xaall (by decide) (de_v 11)))))) da_nil))) (dss_cons (ds_ret de_bl)
    dss_nil) dss_nil)
    (dss_cons (ds_set 5 nd (de_lst da_nil))
    (dss_cons (ds_for passB rfl (di_seq (de_add (de_listRg rfl rfl h.f_list rfl h.f_range de_int) (de_lst (da_cons de_int (da_cons de_int (da_cons de_int (da_cons de_int da_nil))))))) (dg_n 6 nd) (dss_cons (ds_set 5 nd (de_add (de_v 5) (de_lst (da_cons (de_v 6) (da_cons (de_v 6) da_nil)))))
    dss_nil))
    (dss_cons (ds_set 4 nd (de_add (de_v 4) (de_lst (da_cons (de_call0 (callx_xb (xbB_ok h.xb_OtherSize h.g_OtherSize)) rfl h.g_OtherSize h.kb_OtherSize) (da_cons (de_call0 (callx_xb (xbB_ok h.xb_Busy h.g_Busy)) rfl h.g_Busy h.kb_Busy) (da_cons (de_call0 (callx_xb (xbB_ok h.xb_NothingToUndo h.g_NothingToUndo)) rfl h.g_NothingToUndo h.kb_NothingToUndo) da_nil))))))
    (dss_cons (ds_ret (de_eq hr.r.units (de_lc [("_law_e", 11)] rfl nd (di_seq (de_v 4)) (blkOk_by (N := N__law_right) (sc := defScope s__law_right) (by decide +kernel)) (fun _ _ _ _ _ => (dp_n 11 nd)) (fun _ _ _ _ _ => dts_nil) (fun _ _ _ _ _ => (de_call ((c__law_sort h).x (hr.mono (j := 1) (by decide)) takes0) rfl h.g__law_sort h.kp__law_sort (da_cons (de_v 11) da_nil)))) (de_add (de_v 5) (de_lst (da_cons de_int (da_cons de_int (da_cons de_int da_nil)))))))
    dss_nil)))))))))))))
theorem c__law_right (h : Fx K mg base) : CD P w K mg base 4 (.ref (d__law_right.ad K)) 1 [] g__law_right := by
  obtain ⟨fd, F⟩ := h.fn__law_right
  exact CD.pos true F sc__law_right (body__law_right h) (F.bindsN fun _ _ _ _ _ _ us hl => match us, hl with | [_], _ => rfl)
theorem body__law_pool (h : Fx K mg base) : BodyOk P w K mg base 0 N__law_pool "_law_pool" (defScope s__law_pool) (d__law_pool.ad K) (defBody s__law_pool) b__law_pool := fun cd A outer s H E hr => by
  have nd := sc__law_pool.nd
  exact (dss_cons (ds_set 1 nd (de_if (dt_w (dw_or (dt_lt (de_v 0) de_int) (dw_or1 (dt_ge (de_v 0) (de_pow de_int de_int))))) (de_abs rfl h.f_abs (da_cons (de_v 0) da_nil)) de_int))
    (dss_cons (ds_ret (de_lstC (da_cons (de_mod (de_cint rfl h.f_int (da_cons (de_v 0) da_nil)) de_int) (da_cons (de_v 1) (da_cons de_int da_nil)))))
    dss_nil))
theorem c__law_pool (h : Fx K mg base) : CD P w K mg base 1 (.ref (d__law_pool.ad K)) 1 [] g__law_pool := by
  obtain ⟨fd, F⟩ := h.fn__law_pool
  exact CD.pos false F sc__law_pool (body__law_pool h) (F.bindsN fun _ _ _ _ _ _ us hl => match us, hl with | [_], _ => rfl)
theorem body__law_cell (h : Fx K mg base) : BodyOk P w K mg base 0 N__law_cell "_law_cell" (defScope s__law_cell) (d__law_cell.ad K) (defBody s__law_cell) b__law_cell := fun cd A outer s H E hr => by
  have nd := sc__law_cell.nd
  exact (dss_cons (ds_if (dt_lt (de_v 1) (de_len rfl h.f_len (da_cons (de_v 0) da_nil))) (dss_cons (ds_ret (de_cint rfl h.f_int (da_cons (de_ix (de_v 0) (de_v 1)) da_nil)))
    dss_nil) dss_nil)
    (dss_cons (ds_set 2 nd (de_mod (de_cint rfl h.f_int (da_cons (de_mul de_int (de_add (de_add (de_mul (de_v 1) (de_v 1)) (de_mul de_int (de_v 1))) de_int)) da_nil)) de_int))
    (dss_cons (ds_for passB rfl (di_seq (de_sl (de_v 0) do_n (do_s de_int))) (dg_n 3 nd) (dss_cons (ds_set 2 nd (de_mod (de_cint rfl h.f_int (da_cons (de_add (de_mul (de_v 2) de_int) (de_v 3)) da_nil)) de_int))
    dss_nil))
    (dss_cons (ds_ret (de_v 2))
    dss_nil))))
theorem c__law_cell (h : Fx K mg base) : CD P w K mg base 1 (.ref (d__law_cell.ad K)) 2 [] g__law_cell := by
  obtain ⟨fd, F⟩ := h.fn__law_cell
  exact CD.pos true F sc__law_cell (body__law_cell h) (F.bindsN fun _ _ _ _ _ _ us hl => match us, hl with | [_, _], _ => rfl)
theorem body_law (h : Fx K mg base) : BodyOk P w K mg base 4 N_law "law" (defScope s_law) (d_law.ad K) (defBody s_law) b_law := fun cd A outer s H E hr => by
  have nd := sc_law.nd
  exact (dss_cons (ds_set 1 nd (de_lst (da_cons (de_g (v := .int 1000000) (w := .int 1000000) rfl h.k_MOST_NUMBER.choose_spec ⟨_, rfl⟩ (fun _ => rfl)) (da_cons (de_g (v := .int 20) (w := .int 20) rfl h.k_MOST_COMMANDS.choose_spec ⟨_, rfl⟩ (fun _ => rfl)) da_nil))))
    (dss_cons (ds_set 1 nd (de_add (de_v 1) (de_lst (da_cons (de_g (v := .int 20) (w := .int 20) rfl h.k_MOST_LETTERS.choose_spec ⟨_, rfl⟩ (fun _ => rfl)) (da_cons (de_g (v := .int 4) (w := .int 4) rfl h.k_MOST_LEVELS.choose_spec ⟨_, rfl⟩ (fun _ => rfl)) da_nil)))))
    (dss_cons (ds_set 1 nd (de_add (de_v 1) (de_lst (da_cons (de_g (v := .int 99) (w := .int 99) rfl h.k_MOST_TIMES.choose_spec ⟨_, rfl⟩ (fun _ => rfl)) (da_cons (de_g (v := .int 1000000000) (w := .int 1000000000) rfl h.k_MOST_SIDE.choose_spec ⟨_, rfl⟩ (fun _ => rfl)) da_nil)))))
    (dss_cons (ds_set 1 nd (de_add (de_v 1) (de_lst (da_cons (de_g (v := .int 9) (w := .int 9) rfl h.k_MOST_STYLE.choose_spec ⟨_, rfl⟩ (fun _ => rfl)) (da_cons (de_g (v := .int 10000) (w := .int 10000) rfl h.k_MOST_TEXT.choose_spec ⟨_, rfl⟩ (fun _ => rfl)) (da_cons (de_g (v := .int 100) (w := .int 100) rfl h.k_MOST_STREAMS.choose_spec ⟨_, rfl⟩ (fun _ => rfl)) da_nil))))))
    (dss_cons (ds_if (dt_ne hr.r.units (de_v 1) (de_lst (da_cons (de_pow de_int de_int) (da_cons de_int (da_cons de_int (da_cons de_int (da_cons de_int (da_cons (de_pow de_int de_int) (da_cons de_int (da_cons de_int (da_cons de_int da_nil))))))))))) (dss_cons (ds_ret de_bl)
    dss_nil) dss_nil)
    (dss_cons (ds_set 2 nd (de_max rfl rfl h.f_max (da_cons de_int (da_cons (de_min rfl rfl h.f_min (da_cons (de_len rfl h.f_len (da_cons (de_v 0) da_nil)) (da_cons de_int da_nil))) da_nil))))
    (dss_cons (ds_ret (de_all rfl rfl h.f_all (da_cons (de_lc [("_law_k", 3)] rfl nd (di_range1 rfl h.f_range (de_v 2)) (blkOk_by (N := N_law) (sc := defScope s_law) (by decide +kernel)) (fun _ _ _ _ _ => (dp_n 3 nd)) (fun _ _ _ _ _ => dts_nil) (fun _ _ _ _ _ => (de_call ((c__law_right h).x (hr.mono (j := 4) (by decide)) takes0) rfl h.g__law_right h.kp__law_right (da_cons (de_call ((c__law_pool h).x (hr.mono (j := 1) (by decide)) takes0) rfl h.g__law_pool h.kp__law_pool (da_cons (de_call ((c__law_cell h).x (hr.mono (j := 1) (by decide)) takes0) rfl h.g__law_cell h.kp__law_cell (da_cons (de_v 0) (da_cons (de_v 3) da_nil))) da_nil)) da_nil)))) da_nil)))
    dss_nil)))))))
theorem c_law (h : Fx K mg base) : CD P w K mg base 5 (.ref (d_law.ad K)) 1 [] g_law := by
  obtain ⟨fd, F⟩ := h.fn_law
  exact CD.pos true F sc_law (body_law h) (F.bindsN fun _ _ _ _ _ _ us hl => match us, hl with | [_], _ => rfl)
end
end DL.K01
set_option linter.all false
set_option maxRecDepth 100000
set_option maxHeartbeats 4000000
namespace DL.K01
open PySem PySem.Spec PyProof.Rows L2 DL
def plD (a b c : Int) : Cel := .lst [.int a, .int b, .int c]
def Pool (μ : List Cel) (n : Nat) : Prop := ∃ a b c, μ[n]? = some (plD a b c) ∧ 0 ≤ a ∧ a < 2147483399 ∧ 0 ≤ b
/-- the pool at n has moved on -/
def PS (n : Nat) (μ μ' : List Cel) : Prop := n < μ.length ∧ ∃ a b c, μ' = μ.set n (plD a b c) ∧ 0 ≤ a ∧ a < 2147483399 ∧ 0 ≤ b
theorem PS.len {n : Nat} {μ μ' : List Cel} (h : PS n μ μ') : μ'.length = μ.length := by obtain ⟨_, a, b, c, e, _⟩ := h; rw [e]; simp
theorem PS.trans {n : Nat} {μ μ1 μ2 : List Cel} (h : PS n μ μ1) (k : PS n μ1 μ2) : PS n μ μ2 := by
  obtain ⟨hn, a, b, c, e, q⟩ := h
  obtain ⟨_, a2, b2, c2, e2, q2⟩ := k
  exact ⟨hn, a2, b2, c2, by rw [e2, e]; simp, q2⟩
theorem PS.clo {n : Nat} {μ μ' : List Cel} (h : PS n μ μ') (hc : Clo μ) : Clo μ' := by
  obtain ⟨_, a, b, c, e, _⟩ := h
  rw [e]
  exact hc.set n _
theorem px (n : Nat) (μ : List Cel) (x y z : Int) (ρ : Rho) (h : ρ[0]? = some (some (.c n))) (h2 : μ[n]? = some (plD x y z)) :
    e2 ixD (eV 0) (eK (.int 0)) ρ μ = .ok (.d (.int x)) μ ∧ e2 ixD (eV 0) (eK (.int 1)) ρ μ = .ok (.d (.int y)) μ ∧ e2 ixD (eV 0) (eK (.int 2)) ρ μ = .ok (.d (.int z)) μ := by
  refine ⟨e2_ok (eV_ok h) eK_ok ?_, e2_ok (eV_ok h) eK_ok ?_, e2_ok (eV_ok h) eK_ok ?_⟩ <;> simp [ixD, h2, plD, atI, ixN, ofO, okD]
theorem pset (n : Nat) (μ : List Cel) (x y z v : Int) (ρ : Rho) (h : ρ[0]? = some (some (.c n))) (h2 : μ[n]? = some (plD x y z)) :
    gIx (eV 0) (eK (.int 0)) (.d (.int v)) ρ μ = .nx ρ (μ.set n (plD v y z)) ∧ gIx (eV 0) (eK (.int 1)) (.d (.int v)) ρ μ = .nx ρ (μ.set n (plD x v z)) ∧ gIx (eV 0) (eK (.int 2)) (.d (.int v)) ρ μ = .nx ρ (μ.set n (plD x y v)) := by
  refine ⟨?_, ?_, ?_⟩ <;> (unfold gIx; rw [eV_ok h, osbind_ok, eK_ok, osbind_ok]; simp [setIx, h2, plD, ixN])
theorem draw_eq (n : Nat) (m : Int) (hm : 1 ≤ m) (hm2 : m < 1073741824) (μ : List Cel) (hp : Pool μ n) : ∃ r μ', g__law_draw [.c n, .d (.int m)] μ = .ok (.d (.int r)) μ' ∧ 0 ≤ r ∧ r < m ∧ PS n μ μ' := by
  obtain ⟨a, b, c, e, ha, ha2, hb⟩ := hp
  obtain ⟨hn, e'⟩ := List.getElem?_eq_some_iff.mp e
  have at_ : ∀ (x y z : Int), (μ.set n (plD x y z))[n]? = some (plD x y z) := fun x y z => by simp [hn]
  have ss : ∀ (p q : Cel), (μ.set n p).set n q = μ.set n q := fun p q => by simp
  have r0 : (rho0 4 [.c n, .d (.int m)])[0]? = some (some (.c n)) := by simp [rho0]
  have r2 : ((rho0 4 [.c n, .d (.int m)]).set 2 (some (.d (.int a))))[0]? = some (some (.c n)) := by simp [rho0]
  have v2 : ((rho0 4 [.c n, .d (.int m)]).set 2 (some (.d (.int a))))[2]? = some (some (.d (.int a))) := by simp [rho0]
  have v1 : ((rho0 4 [.c n, .d (.int m)]).set 2 (some (.d (.int a))))[1]? = some (some (.d (.int m))) := by simp [rho0]
  generalize hA : (a * (a % 44017 + 27011) + 70001 * (c + 1) + 13) % 2147483399 = A
  have A0 : 0 ≤ A := by rw [← hA]; exact Int.emod_nonneg _ (by decide)
  have A1 : A < 2147483399 := by rw [← hA]; exact Int.emod_lt_of_pos _ (by decide)
  have s1 := st_asg (e := e2 addD (e2 ixD (eV 0) (eK (.int 2))) (eK (.int 1))) (g := gIx (eV 0) (eK (.int 2))) (ρ := rho0 4 [.c n, .d (.int m)]) (μ := μ) (v := .d (.int (c + 1))) (b := sSeq (sAsg (eN intG (as1 (e2 ixD (eV 0) (eK (.int 0))) as0)) (gN 2))
    (sSeq (sAsg (e2 modD (eN intG (as1 (e2 addD (e2 addD (e2 mulD (eV 2) (e2 addD (e2 modD (eV 2) (eK (.int 44017))) (eK (.int 27011)))) (e2 mulD (eK (.int 70001)) (e2 ixD (eV 0) (eK (.int 2))))) (eK (.int 13))) as0)) (eK (.int 2147483399))) (gIx (eV 0) (eK (.int 0))))
    (sSeq (sIf (tBool (e2 gtD (e2 ixD (eV 0) (eK (.int 1))) (eK (.int 0)))) (sSeq (sAsg (eN divmodG (as1 (e2 ixD (eV 0) (eK (.int 1))) (as1 (eV 1) as0))) (gT 2 (gsC (gIx (eV 0) (eK (.int 1))) (gsC (gN 3) gsN))))
    (sSeq (sRet (eV 3))
    sSkip)) sSkip)
    (sSeq (sRet (e2 modD (eN intG (as1 (e2 fdivD (e2 ixD (eV 0) (eK (.int 0))) (eK (.int 32))) as0)) (eV 1)))
    sSkip)))) (e2_ok (px n μ a b c _ r0 e).2.2 eK_ok (by simp [addD, okD])) (pset n μ a b c (c + 1) _ r0 e).2.2
  have hmul : ∀ μ', mulD (.d (.int a)) (.d (.int (a % 44017 + 27011))) μ' = .ok (.d (.int (a * (a % 44017 + 27011)))) μ' := fun μ' => by
    simp only [mulD]
    rw [if_pos (.inl ⟨by omega, by omega⟩)]
    rfl
  have hmul2 : ∀ μ', mulD (.d (.int 70001)) (.d (.int (c + 1))) μ' = .ok (.d (.int (70001 * (c + 1)))) μ' := fun μ' => by
    simp only [mulD]
    rw [if_pos (.inl ⟨by decide, by decide⟩)]
    rfl
  have hfin : ∃ r μ', b__law_draw (rho0 4 [.c n, .d (.int m)]) μ = .rt (.d (.int r)) μ' ∧ 0 ≤ r ∧ r < m ∧ PS n μ μ' := by
    unfold b__law_draw
    rw [s1]
    have p1 := px n _ a b (c + 1) _ r0 (at_ a b (c + 1))
    rw [st_set (v := .d (.int a)) (μ' := (μ.set n (plD a b (c + 1)))) (eN1_ok p1.1 (by simp [intG, okD]))]
    have p2 := px n _ a b (c + 1) _ r2 (at_ a b (c + 1))
    rw [st_asg (v := .d (.int A)) (μ' := (μ.set n (plD a b (c + 1)))) (e2_ok (eN1_ok (e2_ok (e2_ok (e2_ok (eV_ok v2) (e2_ok (e2_ok (eV_ok v2) eK_ok (r := .ok (.d (.int (a % 44017))) (μ.set n (plD a b (c + 1)))) (by simp [modD, okD])) eK_ok (r := .ok (.d (.int (a % 44017 + 27011))) (μ.set n (plD a b (c + 1)))) (by simp [addD, okD])) (hmul _)) (e2_ok eK_ok p2.2.2 (hmul2 _)) (r := .ok (.d (.int (a * (a % 44017 + 27011) + 70001 * (c + 1)))) (μ.set n (plD a b (c + 1)))) (by simp [addD, okD])) eK_ok (r := .ok (.d (.int (a * (a % 44017 + 27011) + 70001 * (c + 1) + 13))) (μ.set n (plD a b (c + 1)))) (by simp [addD, okD])) (r := .ok (.d (.int (a * (a % 44017 + 27011) + 70001 * (c + 1) + 13))) (μ.set n (plD a b (c + 1)))) (by simp [intG, okD])) eK_ok (by simp [modD, okD, hA])) (pset n _ a b (c + 1) A _ r2 (at_ a b (c + 1))).1]
    rw [ss]
    have p3 := px n _ A b (c + 1) _ r2 (at_ A b (c + 1))
    by_cases hb0 : 0 < b
    · rw [st_if1 (μ' := (μ.set n (plD A b (c + 1)))) (tB_ok (e2_ok p3.2.1 eK_ok (by simp [gtD, okD, hb0])))]
      have dm : (0 : Int) < m := by omega
      rw [st_asg (v := .d (.tup [.int (b / m), .int (b % m)])) (μ' := μ.set n (plD A b (c + 1))) (ρ' := ((rho0 4 [.c n, .d (.int m)]).set 2 (some (.d (.int a)))).set 3 (some (.d (.int (b % m))))) (μ2 := μ.set n (plD A (b / m) (c + 1))) (eN2_ok p3.2.1 (eV_ok v1) (by simp [divmodG, okD, dm, hm2])) (by
        simp only [gT, gsC, List.length_cons, List.length_nil, if_true, (pset n _ A b (c + 1) (b / m) _ r2 (at_ A b (c + 1))).2.1, sbind_nx, gN, ss]
        rfl)]
      refine ⟨b % m, μ.set n (plD A (b / m) (c + 1)), by rw [st_ret (eV_ok (x := .d (.int (b % m))) (by simp [rho0]))]; rfl, Int.emod_nonneg _ (by omega), Int.emod_lt_of_pos _ dm, hn, _, _, _, rfl, A0, A1, Int.ediv_nonneg hb (by omega)⟩
    · rw [st_iff (μ' := (μ.set n (plD A b (c + 1)))) (tB_ok (e2_ok p3.2.1 eK_ok (by simp [gtD, okD, hb0])))]
      refine ⟨(A / 32) % m, (μ.set n (plD A b (c + 1))), st_ret (e2_ok (eN1_ok (e2_ok p3.1 eK_ok (r := .ok (.d (.int (A / 32))) (μ.set n (plD A b (c + 1)))) (by simp [fdivD, okD])) (r := .ok (.d (.int (A / 32))) (μ.set n (plD A b (c + 1)))) (by simp [intG, okD])) (eV_ok v1) (by simp [modD, okD]; omega)), Int.emod_nonneg _ (by omega), Int.emod_lt_of_pos _ (by omega), hn, _, _, _, rfl, A0, A1, hb⟩
  obtain ⟨r, μ', h1, h2, h3, h4⟩ := hfin
  refine ⟨r, μ', ?_, h2, h3, h4⟩
  unfold g__law_draw
  rw [fn_rt h1, cutM_of h4.len]
theorem pow_ok (a b : Int) (c : Int) (h : 0 ≤ b ∧ b ≤ 1000000 ∧ a.natAbs < 2 ^ 64) (e : a ^ b.toNat = c) (ρ : Rho) (μ : List Cel) : e2 powD (eK (.int a)) (eK (.int b)) ρ μ = .ok (.d (.int c)) μ := e2_ok eK_ok eK_ok (by simp only [powD, if_pos h, e, okD])
theorem pool_eq (i : Int) (μ : List Cel) : ∃ a b, g__law_pool [.d (.int i)] μ = .ok (.c μ.length) (μ ++ [plD a b 0]) ∧ 0 ≤ a ∧ a < 2147483399 ∧ 0 ≤ b := by
  unfold g__law_pool b__law_pool
  have r0 : (rho0 2 [.d (.int i)])[0]? = some (some (.d (.int i))) := by simp [rho0]
  have p18 := fun ρ => pow_ok 10 18 1000000000000000000 (by decide) (by decide) ρ μ
  have ht : tOrX (tBool (e2 ltD (eV 0) (eK (.int 0)))) (tBool (e2 geD (eV 0) (e2 powD (eK (.int 10)) (eK (.int 18))))) (rho0 2 [.d (.int i)]) μ = .ok (decide (i < 0) || decide (1000000000000000000 ≤ i)) μ :=
    tOr_b (tB_ok (e2_ok (eV_ok r0) eK_ok (by simp [ltD, okD]))) fun _ => tB_ok (e2_ok (eV_ok r0) (p18 _) (by simp [geD, okD]))
  have hB : ∃ B, 0 ≤ B ∧ eIf (tOrX (tBool (e2 ltD (eV 0) (eK (.int 0)))) (tBool (e2 geD (eV 0) (e2 powD (eK (.int 10)) (eK (.int 18)))))) (eN absG (as1 (eV 0) as0)) (eK (.int 0)) (rho0 2 [.d (.int i)]) μ = .ok (.d (.int B)) μ := by
    by_cases h : (decide (i < 0) || decide (1000000000000000000 ≤ i)) = true
    · exact ⟨if i < 0 then -i else i, by split <;> omega, eIf1 (by rw [ht, h]) (eN1_ok (eV_ok r0) (by simp [absG, okD]))⟩
    · exact ⟨0, by decide, eIf0 (by rw [ht, Bool.eq_false_iff.mpr h]) eK_ok⟩
  obtain ⟨B, hB0, hB1⟩ := hB
  have l3 : (3 : Nat) ≤ LIM := by decide
  refine ⟨i % 2147483399, B, ?_, Int.emod_nonneg _ (by decide), Int.emod_lt_of_pos _ (by decide), hB0⟩
  unfold fnG
  rw [st_set hB1, st_ret (v := .c μ.length) (μ' := μ ++ [plD (i % 2147483399) B 0]) (eN3_ok (e2_ok (eN1_ok (eV_ok (x := .d (.int i)) (by simp [rho0])) (r := .ok (.d (.int i)) μ) (by simp [intG, okD])) eK_ok (r := .ok (.d (.int (i % 2147483399))) μ) (by simp [modD, okD])) (eV_ok (x := .d (.int B)) (by simp [rho0])) eK_ok (by simp [eLstC, dats, l3, plD]))]
  rfl
theorem cell_loop : ∀ (ns : List Int) (st : Int) (ρ : Rho) (μ : List Cel), ρ.length = 4 → ρ[2]? = some (some (.d (.int st))) →
    ∃ ρ' st', forL (gN 3) (sSeq (sAsg (e2 modD (eN intG (as1 (e2 addD (e2 mulD (eV 2) (eK (.int 40111))) (eV 3)) as0)) (eK (.int 2147483399))) (gN 2)) sSkip) (intsDat ns) ρ μ = .nx ρ' μ ∧ ρ'[2]? = some (some (.d (.int st')))
  | [], st, ρ, μ, _, h => ⟨ρ, st, rfl, h⟩
  | n :: ns, st, ρ, μ, hl, h => by
    have h2 : (ρ.set 3 (some (.d (.int n))))[2]? = some (some (.d (.int st))) := by simp [h]
    have h3 : (ρ.set 3 (some (.d (.int n))))[3]? = some (some (.d (.int n))) := by simp [hl]
    have hm : mulD (.d (.int st)) (.d (.int 40111)) μ = .ok (.d (.int (st * 40111))) μ := by
      simp only [mulD]
      rw [if_pos (.inr ⟨by decide, by decide⟩)]
      rfl
    obtain ⟨ρ', st', a, b⟩ := cell_loop ns ((st * 40111 + n) % 2147483399) ((ρ.set 3 (some (.d (.int n)))).set 2 (some (.d (.int ((st * 40111 + n) % 2147483399))))) μ (by simp [hl]) (by simp [hl])
    refine ⟨ρ', st', ?_, b⟩
    show ((gN 3 (.d (.int n)) ρ μ).bind _).bind _ = _
    simp only [gN, sbind_nx]
    rw [st_set (v := .d (.int ((st * 40111 + n) % 2147483399))) (μ' := μ) (e2_ok (eN1_ok (e2_ok (e2_ok (eV_ok h2) eK_ok hm) (eV_ok h3) (r := .ok (.d (.int (st * 40111 + n))) μ) (by simp [addD, okD])) (r := .ok (.d (.int (st * 40111 + n))) μ) (by simp [intG, okD])) eK_ok (by simp [modD, okD])), st_skip, sbind_nx]
    exact a
theorem cell_eq (ns : List Int) (k : Nat) (hk : k ≤ 1000) (μ : List Cel) : ∃ i, g__law_cell [.d (.fl (ns.map .int)), .d (.int (k : Nat))] μ = .ok (.d (.int i)) μ := by
  unfold g__law_cell b__law_cell
  have r0 : (rho0 4 [.d (.fl (ns.map .int)), .d (.int (k : Nat))])[0]? = some (some (.d (.fl (ns.map .int)))) := by simp [rho0]
  have r1 : (rho0 4 [.d (.fl (ns.map .int)), .d (.int (k : Nat))])[1]? = some (some (.d (.int (k : Nat)))) := by simp [rho0]
  have ln : eN lenG (as1 (eV 0) as0) (rho0 4 [.d (.fl (ns.map .int)), .d (.int (k : Nat))]) μ = .ok (.d (.int (ns.length : Nat))) μ := eN1_ok (eV_ok r0) (by simp [lenG, lenN, okD])
  by_cases h : k < ns.length
  · refine ⟨ns[k], fn_rt0 ?_⟩
    rw [st_if1 (μ' := μ) (tB_ok (e2_ok (eV_ok r1) ln (by simp [ltD, okD, h])))]
    rw [st_ret (v := .d (.int ns[k])) (μ' := μ) (eN1_ok (e2_ok (eV_ok r0) (eV_ok r1) (r := .ok (.d (.int ns[k])) μ) (by
      simp only [ixD]
      rw [show atI (ns.map Dat.int) (k : Int) = some (Dat.int ns[k]) from (by
        have h2 : ¬ ((k : Int) < 0) := by omega
        simp [atI, ixN, h, h2])]
      simp [ofO, okD])) (by simp [intG, okD]))]
    rfl
  · have mk : ∀ (x y : Int), (-(2 ^ 64) < x ∧ x < 2 ^ 64) → mulD (.d (.int x)) (.d (.int y)) μ = .ok (.d (.int (x * y))) μ := fun x y hx => by
      simp only [mulD]
      rw [if_pos (.inl hx)]
      rfl
    generalize hS : (50021 * ((k : Int) * k + 9 * k + 7)) % 2147483399 = S
    obtain ⟨ρ', st', a, b⟩ := cell_loop (ns.take 3) S ((rho0 4 [.d (.fl (ns.map .int)), .d (.int (k : Nat))]).set 2 (some (.d (.int S)))) μ (by simp [rho0]) (by simp [rho0])
    refine ⟨st', fn_rt0 ?_⟩
    rw [st_iff (μ' := μ) (tB_ok (e2_ok (eV_ok r1) ln (by simp [ltD, okD, h])))]
    rw [st_set (v := .d (.int S)) (μ' := μ) (e2_ok (eN1_ok (e2_ok eK_ok (e2_ok (e2_ok (e2_ok (eV_ok r1) (eV_ok r1) (mk _ _ ⟨by omega, by omega⟩)) (e2_ok eK_ok (eV_ok r1) (mk _ _ ⟨by decide, by decide⟩)) (r := .ok (.d (.int ((k : Int) * k + 9 * k))) μ) (by simp [addD, okD])) eK_ok (r := .ok (.d (.int ((k : Int) * k + 9 * k + 7))) μ) (by simp [addD, okD])) (mk _ _ ⟨by decide, by decide⟩)) (r := .ok (.d (.int (50021 * ((k : Int) * k + 9 * k + 7)))) μ) (by simp [intG, okD])) eK_ok (by simp [modD, okD, hS]))]
    rw [st_nx (ρ' := ρ') (μ' := μ) (by
      unfold sFor
      rw [show iSeq (eSl (eV 0) oN (oS (eK (.int 3)))) _ μ = .ok (intsDat (ns.take 3)) μ by
        unfold iSeq eSl oN oS
        rw [eV_ok (x := .d (.fl (ns.map .int))) (by simp [rho0]), bind_ok, bind_ok, eK_ok]
        simp only [bind_ok, toI, slD, okD, seqIt, ofS, intsDat]
        simp [cutL, HT.sIx, List.map_take], osbind_ok]
      exact a)]
    exact st_ret (eV_ok b)
end DL.K01
set_option Elab.async false
set_option linter.all false
set_option maxRecDepth 100000
set_option maxHeartbeats 4000000
namespace DL
open PySem PySem.Spec PyProof.Rows L2
section
variable {N : Rho → List Cel → Prop} {R : DV → List Cel → Prop} {X : Exn → Rho → List Cel → Prop} {a b d : SX} {e : EX} {t : TX} {ρ : Rho} {μ μ' : List Cel} {g : GX} {i j l : Nat} {as : EXs} {v u w : DV}
theorem ws_ifF (h : WE (t ρ μ) (fun x M => x = false ∧ M = μ) X0) (k : WS (b ρ μ) N R X) : WS (sSeq (sIf t a sSkip) b ρ μ) N R X := by
  rw [st_iff (WE.eq h)]
  exact k
theorem ws_setS (v : DV) (μ' : List Cel) (h : WE (e ρ μ) (fun x M => x = v ∧ M = μ') X0) (k : WS (b (ρ.set i (some v)) μ') N R X) : WS (sSeq (sAsg e (gN i)) b ρ μ) N R X := by
  rw [st_set (WE.eq h)]
  exact k
theorem ws_retS (v : DV) (μ' : List Cel) (h : WE (e ρ μ) (fun x M => x = v ∧ M = μ') X0) (k : R v μ') : WS (sSeq (sRet e) b ρ μ) N R X := by
  rw [st_ret (WE.eq h)]
  exact k
theorem ws_par2S (u v : DV) (μ' : List Cel) (h : WE (as ρ μ) (fun x M => x = [u, v] ∧ M = μ') X0) (k : WS (b ((ρ.set i (some u)).set j (some v)) μ') N R X) : WS (sSeq (sPar2 i j as) b ρ μ) N R X := by
  rw [ws_seq, ws_par2, WE.eq h]
  exact k
/-- a def that hands back a datum -/
theorem fn_eqS {frz : Bool} {n : Nat} {ds : List DV} {x : Dat} (h : WS (b (rho0 n ds) μ) (fun _ _ => False) (fun v M => v = .d x ∧ cutM μ.length M = μ') XS) : fnG frz n b ds μ = .ok (.d x) μ' := by
  refine WE.eq ?_
  rw [we_fnG]
  cases e : b (rho0 n ds) μ with
  | nx ρ M => rw [e] at h; exact h.elim
  | rt v M =>
    rw [e] at h
    obtain ⟨rfl, q⟩ := h
    exact ⟨rfl, q⟩
  | raise e' ρ M => rw [e] at h; exact h.elim
  | stuck => rw [e] at h; exact h.elim
theorem we_fnS {frz : Bool} {n : Nat} {ds : List DV} {Q : DV → List Cel → Prop} {X : Exn → List Cel → Prop} (h : WS (b (rho0 n ds) μ) (fun _ _ => False) (fun v M => ∃ x, v = .d x ∧ Q (.d x) (cutM μ.length M)) (fun e _ M => X e (cutM μ.length M))) : WE (fnG frz n b ds μ) Q X := by
  rw [we_fnG]
  cases e : b (rho0 n ds) μ with
  | nx ρ M => rw [e] at h; exact h.elim
  | rt v M =>
    rw [e] at h
    obtain ⟨x, rfl, q⟩ := h
    exact q
  | raise e' ρ M => rw [e] at h; exact h
  | stuck => rw [e] at h; exact h.elim
end
@[irreducible] def WZ (o : SOut) (N : Rho → List Cel → Prop) (R : DV → List Cel → Prop) (X : Exn → Rho → List Cel → Prop) : Prop := WS o N R X
section
variable {N : Rho → List Cel → Prop} {R : DV → List Cel → Prop} {X : Exn → Rho → List Cel → Prop} {a b d : SX} {e : EX} {t : TX} {ρ : Rho} {μ μ' : List Cel} {g : GX} {i j l : Nat} {as : EXs} {v u w : DV} {o : SOut}
theorem wz_eq : WZ o N R X = WS o N R X := by unfold WZ; rfl
theorem WZ.of (h : WS o N R X) : WZ o N R X := by rw [wz_eq]; exact h
theorem WZ.to (h : WZ o N R X) : WS o N R X := by rw [← wz_eq]; exact h
theorem wz_ifF (h : WE (t ρ μ) (fun x M => x = false ∧ M = μ) X0) (k : WZ (b ρ μ) N R X) : WZ (sSeq (sIf t a sSkip) b ρ μ) N R X := .of (ws_ifF h k.to)
theorem wz_setS (v : DV) (μ' : List Cel) (h : WE (e ρ μ) (fun x M => x = v ∧ M = μ') X0) (k : WZ (b (ρ.set i (some v)) μ') N R X) : WZ (sSeq (sAsg e (gN i)) b ρ μ) N R X := .of (ws_setS v μ' h k.to)
theorem wz_retS (v : DV) (μ' : List Cel) (h : WE (e ρ μ) (fun x M => x = v ∧ M = μ') X0) (k : R v μ') : WZ (sSeq (sRet e) b ρ μ) N R X := .of (ws_retS v μ' h k)
theorem wz_par2S (u v : DV) (μ' : List Cel) (h : WE (as ρ μ) (fun x M => x = [u, v] ∧ M = μ') X0) (k : WZ (b ((ρ.set i (some u)).set j (some v)) μ') N R X) : WZ (sSeq (sPar2 i j as) b ρ μ) N R X := .of (ws_par2S u v μ' h k.to)
theorem wz_retQ (h : WE (e ρ μ) R (fun x μ => X x ρ μ)) : WZ (sSeq (sRet e) b ρ μ) N R X := by
  rw [wz_eq, ws_seq, ws_ret]
  exact h
theorem wz_skip (k : N ρ μ) : WZ (sSkip ρ μ) N R X := .of k
theorem WZ.mono {N' : Rho → List Cel → Prop} {R' : DV → List Cel → Prop} (h : WZ o N R X) (hn : ∀ ρ μ, N ρ μ → N' ρ μ) (hr : ∀ v μ, R v μ → R' v μ) : WZ o N' R' X := .of (h.to.mono hn hr)
/-- a loop with an invariant; the loop's items are known -/
theorem wz_forI {it : IX} {β : Type} (enc : β → Dat) (I : List β → Rho → List Cel → Prop) (xs : List β) (μ1 : List Cel) (hit : WE (it ρ μ) (fun ds M => ds = xs.map enc ∧ M = μ1) X0) (h0 : I [] ρ μ1)
    (hs : ∀ pre x post ρ μ, xs = pre ++ x :: post → I pre ρ μ → WS (g (.d (enc x)) ρ μ) (fun ρ μ => WZ (a ρ μ) (fun ρ μ => I (pre ++ [x]) ρ μ) R X) R X)
    (he : ∀ ρ μ, I xs ρ μ → WZ (b ρ μ) N R X) : WZ (sSeq (sFor it g a) b ρ μ) N R X := by
  simp only [wz_eq] at *
  rw [ws_seq, ws_for, WE.eq hit]
  exact ws_forI enc I xs h0 hs he
theorem wz_forP {it : IX} {β : Type} (enc : β → Dat) (P : Rho → List Cel → Prop) (xs : List β) (μ1 : List Cel) (hit : WE (it ρ μ) (fun ds M => ds = xs.map enc ∧ M = μ1) X0) (h0 : P ρ μ1)
    (hs : ∀ x ρ μ, x ∈ xs → P ρ μ → WS (g (.d (enc x)) ρ μ) (fun ρ μ => WZ (a ρ μ) P R X) R X)
    (he : ∀ ρ μ, P ρ μ → WZ (b ρ μ) N R X) : WZ (sSeq (sFor it g a) b ρ μ) N R X :=
  wz_forI enc (fun _ => P) xs μ1 hit h0 (fun pre x post ρ μ e i => hs x ρ μ (by rw [e]; simp) i) he
theorem wz_setP (v : DV) (h : e ρ μ = .ok v μ) (k : WZ (b (ρ.set i (some v)) μ) N R X) : WZ (sSeq (sAsg e (gN i)) b ρ μ) N R X := wz_setS v μ (WE.of_eq h ⟨rfl, rfl⟩) k
theorem wz_retP (v : DV) (h : e ρ μ = .ok v μ) (k : R v μ) : WZ (sSeq (sRet e) b ρ μ) N R X := wz_retS v μ (WE.of_eq h ⟨rfl, rfl⟩) k
theorem fn_eqZ {frz : Bool} {n : Nat} {ds : List DV} {x : Dat} (h : WZ (b (rho0 n ds) μ) (fun _ _ => False) (fun v M => v = .d x ∧ cutM μ.length M = μ') XS) : fnG frz n b ds μ = .ok (.d x) μ' := fn_eqS h.to
theorem we_fnZ {frz : Bool} {n : Nat} {ds : List DV} {Q : DV → List Cel → Prop} {X : Exn → List Cel → Prop} (h : WZ (b (rho0 n ds) μ) (fun _ _ => False) (fun v M => ∃ x, v = .d x ∧ Q (.d x) (cutM μ.length M)) (fun e _ M => X e (cutM μ.length M))) : WE (fnG frz n b ds μ) Q X := we_fnS h.to
end
end DL
set_option Elab.async false
set_option linter.all false
set_option maxRecDepth 100000
set_option maxHeartbeats 4000000
namespace DL
open PySem PySem.Spec PyProof.Rows L2
end DL
set_option linter.all false
set_option maxRecDepth 100000
set_option maxHeartbeats 1000000
namespace DL.K01
open PySem PySem.Spec PyProof.Rows L2 DL
theorem fld_all (cs : List Nat) (i : Nat) (d : Dat) {it : IX} {ρ : Rho} {μ : List Cel} (ds : List Dat) (hc : Clo μ) (hit : it ρ μ = .ok ds μ) (h3 : ρ.length = 4) (hl : ds.length ≤ 100) (h : ∀ x ∈ ds, ∀ M, xfG cs i (.d x) M = .ok (.d d) M) :
    eLc [3] it (gN 3) tTrue (e1 (xfG cs i) (eV 3)) ρ μ = .ok (.d (.lst (ds.map fun _ => d))) μ := by
  refine eLc_map hc hit (Nat.le_trans hl (by decide)) (fun _ => d) fun x hx acc => ?_
  refine ⟨_, _, rfl, ?_⟩
  refine WE.eq ?_
  simp [wipeR, h3, h x hx]
theorem xf_ok (cs : List Nat) (i c : Nat) (d : Dat) (hc : c ∈ cs) (M : List Cel) : xfG cs i (.d (.exn c [(i, d)])) M = .ok (.d d) M := by
  simp [xfG, hc, okD]
def made_first (d : Dat) : List Dat := [.exn 1 [(0, d)], .exn 1 [(0, d)], .exn 2 [(1, d)], .exn 2 [(1, d)], .exn 3 [(2, d)], .exn 3 [(2, d)], .exn 4 [(3, d)], .exn 4 [(3, d)], .exn 5 [(4, d)], .exn 5 [(4, d)], .exn 6 [(0, d)], .exn 6 [(0, d)]]
theorem first_eq (d : Dat) (μ : List Cel) (hc : Clo μ) : g__law_first [.d d] μ = .ok (.d (.lst [.lst (made_first d), .lst (List.replicate 12 d)])) μ := by
  refine fn_eqZ ?_
  show WZ (b__law_first [some (.d d), none, none, none] μ) _ _ _
  unfold b__law_first
  refine wz_setP (.d (.lst [.exn 1 [(0, d)], .exn 1 [(0, d)], .exn 2 [(1, d)], .exn 2 [(1, d)]])) (by rfl) ?_
  simp only [List.set]
  refine wz_setP (.d (.lst [.exn 1 [(0, d)], .exn 1 [(0, d)], .exn 2 [(1, d)], .exn 2 [(1, d)], .exn 3 [(2, d)], .exn 3 [(2, d)], .exn 4 [(3, d)], .exn 4 [(3, d)]])) (by rfl) ?_
  simp only [List.set]
  refine wz_setP (.d (.lst [.exn 1 [(0, d)], .exn 1 [(0, d)], .exn 2 [(1, d)], .exn 2 [(1, d)], .exn 3 [(2, d)], .exn 3 [(2, d)], .exn 4 [(3, d)], .exn 4 [(3, d)], .exn 5 [(4, d)], .exn 5 [(4, d)], .exn 6 [(0, d)], .exn 6 [(0, d)]])) (by rfl) ?_
  simp only [List.set]
  refine wz_setP (.d (.lst (List.replicate 4 d))) (e2_ok ((fld_all [1, 6, 7, 9] 0 d [.exn 1 [(0, d)], .exn 1 [(0, d)]] hc (by rfl) rfl (by simp) (fun x hx M => by
      simp only [List.mem_cons, List.not_mem_nil, or_false] at hx
      rcases hx with rfl | rfl <;> exact xf_ok _ _ _ _ (by decide) M))) (fld_all [2] 1 d [.exn 2 [(1, d)], .exn 2 [(1, d)]] hc (by rfl) rfl (by simp) (fun x hx M => by
      simp only [List.mem_cons, List.not_mem_nil, or_false] at hx
      rcases hx with rfl | rfl <;> exact xf_ok _ _ _ _ (by decide) M)) (by rfl)) ?_
  simp only [List.set]
  refine wz_setP (.d (.lst (List.replicate 8 d))) (e2_ok (e2_ok (by rfl) (fld_all [3, 12, 13] 2 d [.exn 3 [(2, d)], .exn 3 [(2, d)]] hc (by rfl) rfl (by simp) (fun x hx M => by
      simp only [List.mem_cons, List.not_mem_nil, or_false] at hx
      rcases hx with rfl | rfl <;> exact xf_ok _ _ _ _ (by decide) M)) (by rfl)) (fld_all [4] 3 d [.exn 4 [(3, d)], .exn 4 [(3, d)]] hc (by rfl) rfl (by simp) (fun x hx M => by
      simp only [List.mem_cons, List.not_mem_nil, or_false] at hx
      rcases hx with rfl | rfl <;> exact xf_ok _ _ _ _ (by decide) M)) (by rfl)) ?_
  simp only [List.set]
  refine wz_setP (.d (.lst (List.replicate 12 d))) (e2_ok (e2_ok (by rfl) (fld_all [5] 4 d [.exn 5 [(4, d)], .exn 5 [(4, d)]] hc (by rfl) rfl (by simp) (fun x hx M => by
      simp only [List.mem_cons, List.not_mem_nil, or_false] at hx
      rcases hx with rfl | rfl <;> exact xf_ok _ _ _ _ (by decide) M)) (by rfl)) (fld_all [1, 6, 7, 9] 0 d [.exn 6 [(0, d)], .exn 6 [(0, d)]] hc (by rfl) rfl (by simp) (fun x hx M => by
      simp only [List.mem_cons, List.not_mem_nil, or_false] at hx
      rcases hx with rfl | rfl <;> exact xf_ok _ _ _ _ (by decide) M)) (by rfl)) ?_
  simp only [List.set]
  refine wz_retP (.d (.lst [.lst (made_first d), .lst (List.replicate 12 d)])) (by rfl) ?_
  exact ⟨rfl, cutM_self _⟩
def made_second (d : Dat) : List Dat := [.exn 7 [(0, d)], .exn 7 [(0, d)], .exn 8 [(5, d)], .exn 8 [(5, d)], .exn 9 [(0, d)], .exn 9 [(0, d)], .exn 10 [(6, d)], .exn 10 [(6, d)], .exn 11 [(7, d)], .exn 11 [(7, d)], .exn 12 [(2, d)], .exn 12 [(2, d)], .exn 13 [(2, d)], .exn 13 [(2, d)]]
theorem second_eq (d : Dat) (μ : List Cel) (hc : Clo μ) : g__law_second [.d d] μ = .ok (.d (.lst [.lst (made_second d), .lst (List.replicate 14 d)])) μ := by
  refine fn_eqZ ?_
  show WZ (b__law_second [some (.d d), none, none, none] μ) _ _ _
  unfold b__law_second
  refine wz_setP (.d (.lst [.exn 7 [(0, d)], .exn 7 [(0, d)], .exn 8 [(5, d)], .exn 8 [(5, d)]])) (by rfl) ?_
  simp only [List.set]
  refine wz_setP (.d (.lst [.exn 7 [(0, d)], .exn 7 [(0, d)], .exn 8 [(5, d)], .exn 8 [(5, d)], .exn 9 [(0, d)], .exn 9 [(0, d)], .exn 10 [(6, d)], .exn 10 [(6, d)]])) (by rfl) ?_
  simp only [List.set]
  refine wz_setP (.d (.lst [.exn 7 [(0, d)], .exn 7 [(0, d)], .exn 8 [(5, d)], .exn 8 [(5, d)], .exn 9 [(0, d)], .exn 9 [(0, d)], .exn 10 [(6, d)], .exn 10 [(6, d)], .exn 11 [(7, d)], .exn 11 [(7, d)], .exn 12 [(2, d)], .exn 12 [(2, d)]])) (by rfl) ?_
  simp only [List.set]
  refine wz_setP (.d (.lst [.exn 7 [(0, d)], .exn 7 [(0, d)], .exn 8 [(5, d)], .exn 8 [(5, d)], .exn 9 [(0, d)], .exn 9 [(0, d)], .exn 10 [(6, d)], .exn 10 [(6, d)], .exn 11 [(7, d)], .exn 11 [(7, d)], .exn 12 [(2, d)], .exn 12 [(2, d)], .exn 13 [(2, d)], .exn 13 [(2, d)]])) (by rfl) ?_
  simp only [List.set]
  refine wz_setP (.d (.lst (List.replicate 4 d))) (e2_ok ((fld_all [1, 6, 7, 9] 0 d [.exn 7 [(0, d)], .exn 7 [(0, d)]] hc (by rfl) rfl (by simp) (fun x hx M => by
      simp only [List.mem_cons, List.not_mem_nil, or_false] at hx
      rcases hx with rfl | rfl <;> exact xf_ok _ _ _ _ (by decide) M))) (fld_all [8] 5 d [.exn 8 [(5, d)], .exn 8 [(5, d)]] hc (by rfl) rfl (by simp) (fun x hx M => by
      simp only [List.mem_cons, List.not_mem_nil, or_false] at hx
      rcases hx with rfl | rfl <;> exact xf_ok _ _ _ _ (by decide) M)) (by rfl)) ?_
  simp only [List.set]
  refine wz_setP (.d (.lst (List.replicate 8 d))) (e2_ok (e2_ok (by rfl) (fld_all [1, 6, 7, 9] 0 d [.exn 9 [(0, d)], .exn 9 [(0, d)]] hc (by rfl) rfl (by simp) (fun x hx M => by
      simp only [List.mem_cons, List.not_mem_nil, or_false] at hx
      rcases hx with rfl | rfl <;> exact xf_ok _ _ _ _ (by decide) M)) (by rfl)) (fld_all [10] 6 d [.exn 10 [(6, d)], .exn 10 [(6, d)]] hc (by rfl) rfl (by simp) (fun x hx M => by
      simp only [List.mem_cons, List.not_mem_nil, or_false] at hx
      rcases hx with rfl | rfl <;> exact xf_ok _ _ _ _ (by decide) M)) (by rfl)) ?_
  simp only [List.set]
  refine wz_setP (.d (.lst (List.replicate 14 d))) (e2_ok (e2_ok (by rfl) (fld_all [11] 7 d [.exn 11 [(7, d)], .exn 11 [(7, d)]] hc (by rfl) rfl (by simp) (fun x hx M => by
      simp only [List.mem_cons, List.not_mem_nil, or_false] at hx
      rcases hx with rfl | rfl <;> exact xf_ok _ _ _ _ (by decide) M)) (by rfl)) (fld_all [3, 12, 13] 2 d [.exn 12 [(2, d)], .exn 12 [(2, d)], .exn 13 [(2, d)], .exn 13 [(2, d)]] hc (by rfl) rfl (by simp) (fun x hx M => by
      simp only [List.mem_cons, List.not_mem_nil, or_false] at hx
      rcases hx with rfl | rfl | rfl | rfl <;> exact xf_ok _ _ _ _ (by decide) M)) (by rfl)) ?_
  simp only [List.set]
  refine wz_retP (.d (.lst [.lst (made_second d), .lst (List.replicate 14 d)])) (by rfl) ?_
  exact ⟨rfl, cutM_self _⟩
def made_third (d : Dat) : List Dat := [.exn 19 [(8, d)], .exn 19 [(8, d)], .exn 20 [(8, d)], .exn 20 [(8, d)], .exn 21 [(9, d)], .exn 21 [(9, d)], .exn 22 [(10, d)], .exn 22 [(10, d)]]
theorem third_eq (d : Dat) (μ : List Cel) (hc : Clo μ) : g__law_third [.d d] μ = .ok (.d (.lst [.lst (made_third d), .lst (List.replicate 8 d)])) μ := by
  refine fn_eqZ ?_
  show WZ (b__law_third [some (.d d), none, none, none] μ) _ _ _
  unfold b__law_third
  refine wz_setP (.d (.lst [.exn 19 [(8, d)], .exn 19 [(8, d)], .exn 20 [(8, d)], .exn 20 [(8, d)]])) (by rfl) ?_
  simp only [List.set]
  refine wz_setP (.d (.lst [.exn 19 [(8, d)], .exn 19 [(8, d)], .exn 20 [(8, d)], .exn 20 [(8, d)], .exn 21 [(9, d)], .exn 21 [(9, d)], .exn 22 [(10, d)], .exn 22 [(10, d)]])) (by rfl) ?_
  simp only [List.set]
  refine wz_setP (.d (.lst (List.replicate 6 d))) (e2_ok ((fld_all [19, 20] 8 d [.exn 19 [(8, d)], .exn 19 [(8, d)], .exn 20 [(8, d)], .exn 20 [(8, d)]] hc (by rfl) rfl (by simp) (fun x hx M => by
      simp only [List.mem_cons, List.not_mem_nil, or_false] at hx
      rcases hx with rfl | rfl | rfl | rfl <;> exact xf_ok _ _ _ _ (by decide) M))) (fld_all [21] 9 d [.exn 21 [(9, d)], .exn 21 [(9, d)]] hc (by rfl) rfl (by simp) (fun x hx M => by
      simp only [List.mem_cons, List.not_mem_nil, or_false] at hx
      rcases hx with rfl | rfl <;> exact xf_ok _ _ _ _ (by decide) M)) (by rfl)) ?_
  simp only [List.set]
  refine wz_setP (.d (.lst (List.replicate 8 d))) (e2_ok (by rfl) (fld_all [22] 10 d [.exn 22 [(10, d)], .exn 22 [(10, d)]] hc (by rfl) rfl (by simp) (fun x hx M => by
      simp only [List.mem_cons, List.not_mem_nil, or_false] at hx
      rcases hx with rfl | rfl <;> exact xf_ok _ _ _ _ (by decide) M)) (by rfl)) ?_
  simp only [List.set]
  refine wz_retP (.d (.lst [.lst (made_third d), .lst (List.replicate 8 d)])) (by rfl) ?_
  exact ⟨rfl, cutM_self _⟩
end DL.K01
set_option Elab.async false
set_option linter.all false
set_option maxRecDepth 100000
set_option maxHeartbeats 4000000
namespace DL
open PySem PySem.Spec PyProof.Rows L2
end DL
set_option Elab.async false
set_option linter.all false
set_option maxRecDepth 100000
set_option maxHeartbeats 4000000
namespace DL
open PySem PySem.Spec PyProof.Rows L2
mutual
theorem eqD_self : ∀ (n : Nat) (d : Dat), shal n d = true → eqD d d = true
  | _, .non, _ => by simp [eqD]
  | _, .bl b, _ => by simp [eqD]
  | _, .int i, _ => by simp [eqD]
  | _, .str s, _ => by simp [eqD]
  | 0, .tup ds, h => by simp [shal] at h
  | 0, .lst ds, h => by simp [shal] at h
  | n + 1, .tup ds, h => by
    show eqDs ds ds = true
    exact eqDs_self n ds (by simpa [shal] using h)
  | n + 1, .lst ds, h => by
    show eqDs ds ds = true
    exact eqDs_self n ds (by simpa [shal] using h)
  | n, .fl _, h => by cases n <;> simp [shal] at h
  | n, .ins _ _, h => by cases n <;> simp [shal] at h
  | n, .cls _, h => by cases n <;> simp [shal] at h
  | n, .dic, h => by cases n <;> simp [shal] at h
theorem eqDs_self : ∀ (n : Nat) (ds : List Dat), shals n ds = true → eqDs ds ds = true
  | _, [], _ => rfl
  | n, d :: ds, h => by
    have h' : shal n d = true ∧ shals n ds = true := by simpa [shals] using h
    show (eqD d d && eqDs ds ds) = true
    rw [eqD_self n d h'.1, eqDs_self n ds h'.2]
    rfl
end
end DL
set_option linter.all false
set_option maxRecDepth 100000
set_option maxHeartbeats 1000000
namespace DL.K01
open PySem PySem.Spec PyProof.Rows L2 DL
def cls : List Nat := [1, 2, 3, 4, 5, 6, 7, 8, 9, 10, 11, 12, 13, 15, 16, 17, 19, 20, 21, 22]
def srt (c : Nat) : Int := match ([(1, 0), (2, 1), (3, 2), (4, 3), (5, 4), (6, 5), (7, 6), (8, 7), (9, 8), (10, 9), (11, 10), (12, 11), (13, 12), (15, 13), (16, 14), (17, 15), (19, 16), (20, 17), (21, 18), (22, 19)] : List (Nat × Int)).lookup c with
  | some i => i
  | none => 0
theorem sort_eq (c : Nat) (hc : c ∈ cls) (fs : List (Nat × Dat)) (μ : List Cel) : g__law_sort [.d (.exn c fs)] μ = .ok (.d (.int (srt c))) μ := by
  have key : b__law_sort (rho0 5 [.d (.exn c fs)]) μ = .rt (.d (.int (srt c))) μ := by
    simp only [cls, List.mem_cons, List.not_mem_nil, or_false] at hc
    rcases hc with rfl | rfl | rfl | rfl | rfl | rfl | rfl | rfl | rfl | rfl | rfl | rfl | rfl | rfl | rfl | rfl | rfl | rfl | rfl | rfl <;> kernel_rfl
  unfold g__law_sort
  rw [fn_rt key, cutM_self]
def things : List Dat := [.non, .int 0, .bl true, .str [105, 110, 100, 101, 120], .tup [.int 1, .int 2], .lst [.int 3], .dic, .int (10 ^ 30), .int (-5), .tup [.str [117, 112]]]
theorem things_ok : ∀ d ∈ things, okY d = true := by
  have : things.all okY = true := by decide +kernel
  exact List.all_eq_true.mp this
def joint (d : Dat) : List Dat := made_first d ++ made_second d ++ made_third d
def tailE : List Dat := [.exn 15 [], .exn 16 [], .exn 17 []]
theorem joint_cls (d : Dat) : ∀ x ∈ joint d, ∃ c i, x = .exn c [(i, d)] ∧ c ∈ cls := by
  intro x hx
  simp only [joint, made_first, made_second, made_third, List.cons_append, List.nil_append, List.mem_cons, List.not_mem_nil, or_false] at hx
  rcases hx with rfl | rfl | rfl | rfl | rfl | rfl | rfl | rfl | rfl | rfl | rfl | rfl | rfl | rfl | rfl | rfl | rfl | rfl | rfl | rfl | rfl | rfl | rfl | rfl | rfl | rfl | rfl | rfl | rfl | rfl | rfl | rfl | rfl | rfl <;> exact ⟨_, _, rfl, by decide⟩
theorem isi_f {cc : List (Nat × Bool)} (h : (cls.all fun c => cc.lookup c == some false) = true) {c : Nat} (hc : c ∈ cls) (fs : List (Nat × Dat)) (M : List Cel) : isiE cc (.d (.exn c fs)) M = .ok (.d (.bl false)) M := by
  have e := beq_iff_eq.mp (List.all_eq_true.mp h c hc)
  simp [isiE, e, okD]
section
variable {ρ : Rho} {μ : List Cel} {d : Dat}
theorem any_f {c1 c2 : List (Nat × Bool)} (h1 : (cls.all fun c => c1.lookup c == some false) = true) (h2 : (cls.all fun c => c2.lookup c == some false) = true) (hc : Clo μ) (h4 : ρ[4]? = some (some (.d (.lst (joint d))))) (hl : ρ.length = 13) :
    WE (tTru (eN anyG (as1 (eLc [11] (iSeq (eV 4)) (gN 11) tTrue (eOr (e1 (isiE c1) (eV 11)) (e1 (isiE c2) (eV 11)))) as0)) ρ μ) (fun x M => x = false ∧ M = μ) X0 := by
  have e : eLc [11] (iSeq (eV 4)) (gN 11) tTrue (eOr (e1 (isiE c1) (eV 11)) (e1 (isiE c2) (eV 11))) ρ μ = .ok (.d (.lst ((joint d).map fun _ => .bl false))) μ := by
    refine eLc_map hc (by unfold iSeq; simp [eV, h4, seqIt, ofS]) (by rw [show (joint d).length = 34 from rfl]; decide) (fun _ => .bl false) fun x hx acc => ?_
    obtain ⟨c, i, rfl, hcl⟩ := joint_cls d x hx
    refine ⟨_, _, rfl, WE.eq ?_⟩
    simp [wipeR, hl, isi_f h1 hcl, isi_f h2 hcl, truD]
  have bs : bls ((joint d).map fun _ => Dat.bl false) = some (List.replicate 34 false) := rfl
  simp [e, truD]
  exact ⟨_, bs, by decide⟩
theorem reprs_eq (n : Nat) (hn : n ≤ 100) (ok : okY d = true) (hc : Clo μ) (h10 : ρ[10]? = some (some (.d (.lst (List.replicate n d))))) (h2 : ρ[2]? = some (some (.d d))) (hl : ρ.length = 13) :
    WE (tNotX (tTru (eN allG (as1 (eLc [12] (iSeq (eV 10)) (gN 12) tTrue (e2 eqB (e1 reprY (eV 12)) (e1 reprY (eV 2)))) as0))) ρ μ) (fun x M => x = false ∧ M = μ) X0 := by
  have e : eLc [12] (iSeq (eV 10)) (gN 12) tTrue (e2 eqB (e1 reprY (eV 12)) (e1 reprY (eV 2))) ρ μ = .ok (.d (.lst ((List.replicate n d).map fun _ => .bl true))) μ := by
    refine eLc_map hc (by unfold iSeq; simp [eV, h10, seqIt, ofS]) (by simp; exact Nat.le_trans hn (by decide)) (fun _ => .bl true) fun x hx acc => ?_
    obtain rfl := List.eq_of_mem_replicate hx
    have h2' : (wipeR ρ [12])[2]? = some (some (.d x)) := by
      simp [wipeR, h2]
    refine ⟨_, _, rfl, WE.eq ?_⟩
    have sh : shal 60 (.str (rdY x)) = true := by simpa [shal] using rdY_asc ok
    have g2 : ρ[2]'(by omega) = some (.d x) := (List.getElem?_eq_some_iff.mp h2).2
    have es := eqD_self 60 _ sh
    simp [ok, wipeR, hl, sh, g2, es]
  have bs : bls (List.replicate n (Dat.bl true)) = some (List.replicate n true) := by
    rw [show List.replicate n (Dat.bl true) = (List.replicate n true).map .bl by simp]
    exact bls_map' _
  simp [e, truD]
  exact ⟨_, bs, by simp⟩
theorem sorts_eq (hc : Clo μ) (h4 : ρ[4]? = some (some (.d (.lst (joint d ++ tailE))))) (hl : ρ.length = 13) :
    eLc [11] (iSeq (eV 4)) (gN 11) tTrue (eCall 1 g__law_sort (as1 (eV 11) as0)) ρ μ = .ok (.d (.lst ((joint d ++ tailE).map fun x => match x with
      | .exn c _ => .int (srt c)
      | x => x))) μ := by
  refine eLc_map hc (by unfold iSeq; simp [eV, h4, seqIt, ofS]) (by rw [show (joint d ++ tailE).length = 37 from rfl]; decide) (fun x => match x with
    | .exn c _ => .int (srt c)
    | x => x) fun x hx acc => ?_
  have key : ∃ c fs, x = .exn c fs ∧ c ∈ cls := by
    rcases List.mem_append.mp hx with h | h
    · obtain ⟨c, i, e, h⟩ := joint_cls d x h
      exact ⟨c, _, e, h⟩
    · simp only [tailE, List.mem_cons, List.not_mem_nil, or_false] at h
      rcases h with rfl | rfl | rfl <;> exact ⟨_, _, rfl, by decide⟩
  obtain ⟨c, fs, rfl, hcl⟩ := key
  refine ⟨_, _, rfl, WE.eq ?_⟩
  simp [wipeR, hl, sort_eq c hcl]
def dueL : List Dat := ([0, 0, 1, 1, 2, 2, 3, 3, 4, 4, 5, 5, 6, 6, 7, 7, 8, 8, 9, 9, 10, 10, 11, 11, 12, 12, 16, 16, 17, 17, 18, 18, 19, 19] : List Int).map .int
end
theorem right_eq (p : Nat) (M : List Cel) (hp : Pool M p) (hc : Clo M) : WE (g__law_right [.c p] M) (fun v μ' => v = .d (.bl true) ∧ PS p M μ') X0 := by
  obtain ⟨r, M2, er, r0, r1, s⟩ := draw_eq p 10 (by decide) (by decide) M hp
  have hc2 := s.clo hc
  have hcut : cutM M.length M2 = M2 := cutM_of s.len
  obtain ⟨d, hd, ok⟩ : ∃ d, atI things r = some d ∧ okY d = true := by
    have hlt : r.toNat < things.length := by rw [show things.length = 10 from rfl]; omega
    exact ⟨_, atI_int things r r0 hlt, things_ok _ (List.getElem_mem hlt)⟩
  have f1 := first_eq d M2 hc2
  have f2 := second_eq d M2 hc2
  have f3 := third_eq d M2 hc2
  have hsh : ∀ i : Int, shal 60 (.int i) = true := fun _ => rfl
  unfold g__law_right
  refine we_fnZ ?_
  show WZ (b__law_right [some (.c p), none, none, none, none, none, none, none, none, none, none, none, none] M) _ _ _
  unfold b__law_right
  refine wz_setP (.d (.lst things)) (by kernel_rfl) ?_
  simp only [List.set]
  refine wz_setS (.d d) M2 (by simp [er, hd]) ?_
  simp only [List.set]
  refine wz_par2S (.d (.lst [.lst (made_first d), .lst (List.replicate 12 d)])) (.d (.lst [.lst (made_second d), .lst (List.replicate 14 d)])) M2 (by simp [f1, f2]) ?_
  simp only [List.set]
  refine wz_setS (.d (.lst [.lst (made_third d), .lst (List.replicate 8 d)])) M2 (by simp [f3]) ?_
  simp only [List.set]
  refine wz_forP (fun q : List Dat × Nat => .lst [.lst q.1, .lst (List.replicate q.2 d)]) (fun ρ μ => μ = M2 ∧ ∃ a b, ρ = [some (.c p), some (.d (.lst things)), some (.d d), some (.d (.lst [.lst (made_third d), .lst (List.replicate 8 d)])), none, none, none, some (.d (.lst [.lst (made_first d), .lst (List.replicate 12 d)])), some (.d (.lst [.lst (made_second d), .lst (List.replicate 14 d)])), a, b, none, none])
    [(made_first d, 12), (made_second d, 14), (made_third d, 8)] M2 (by simp [seqIt]) ⟨rfl, none, none, rfl⟩ ?_ ?_
  · rintro q ρ μ hq ⟨rfl, a, b, rfl⟩
    have hn : q.1.length = q.2 ∧ q.2 ≤ 100 := by
      simp only [List.mem_cons, List.not_mem_nil, or_false] at hq
      rcases hq with rfl | rfl | rfl <;> exact ⟨rfl, by simp⟩
    obtain ⟨l, n⟩ := q
    obtain ⟨hln, hn⟩ := hn
    dsimp only at hn hln ⊢
    rw [ws_gTL]
    refine ⟨rfl, ?_⟩
    show WZ (sSeq _ _ [some (.c p), some (.d (.lst things)), some (.d d), some (.d (.lst [.lst (made_third d), .lst (List.replicate 8 d)])), none, none, none, some (.d (.lst [.lst (made_first d), .lst (List.replicate 12 d)])), some (.d (.lst [.lst (made_second d), .lst (List.replicate 14 d)])), some (.d (.lst l)), some (.d (.lst (List.replicate n d))), none, none] μ) _ _ _
    have ei : eqD (.int (n : Int)) (.int (n : Int)) = true := eqD_self 60 _ rfl
    refine wz_ifF (by simp [lenN, hln, ei, hsh]) ?_
    refine wz_ifF (reprs_eq n hn ok hc2 rfl rfl rfl) ?_
    refine wz_skip ?_
    exact ⟨rfl, _, _, rfl⟩
  · rintro ρ μ ⟨rfl, a, b, rfl⟩
    refine wz_setP (.d (.lst (joint d))) (by rfl) ?_
    simp only [List.set]
    refine wz_ifF (any_f (by decide) (by decide) hc2 rfl rfl) ?_
    refine wz_ifF (any_f (by decide) (by decide) hc2 rfl rfl) ?_
    refine wz_ifF (any_f (by decide) (by decide) hc2 rfl rfl) ?_
    refine wz_setP (.d (.lst [])) (by rfl) ?_
    simp only [List.set]
    refine wz_forI (fun i : Int => .int i) (fun pre ρ μ' => μ' = μ ∧ ∃ e, ρ = [some (.c p), some (.d (.lst things)), some (.d d), some (.d (.lst [.lst (made_third d), .lst (List.replicate 8 d)])), some (.d (.lst (joint d))), some (.d (.lst (pre.flatMap fun i => [.int i, .int i]))), e, some (.d (.lst [.lst (made_first d), .lst (List.replicate 12 d)])), some (.d (.lst [.lst (made_second d), .lst (List.replicate 14 d)])), a, b, none, none]) [0, 1, 2, 3, 4, 5, 6, 7, 8, 9, 10, 11, 12, 16, 17, 18, 19] μ (WE.of_eq (by rfl) ⟨rfl, rfl⟩) ⟨rfl, none, rfl⟩ ?_ ?_
    · rintro pre x post ρ μ' ex ⟨rfl, e, rfl⟩
      rw [ws_gN]
      simp only [List.set]
      have hl : pre.length ≤ 17 := by
        have := congrArg List.length ex
        simp at this
        omega
      have hfl : (pre.map fun _ : Int => 2).sum = 2 * pre.length := by
        clear ex hl
        induction pre with
        | nil => rfl
        | cons a l ih => simp [ih]; omega
      refine wz_setS (.d (.lst ((pre ++ [x]).flatMap fun i => [.int i, .int i]))) μ' (by
        simp
        rw [hfl]
        omega) ?_
      simp only [List.set]
      refine wz_skip ?_
      exact ⟨rfl, _, rfl⟩
    · rintro ρ μ' ⟨rfl, e, rfl⟩
      refine wz_setP (.d (.lst (joint d ++ tailE))) (by rfl) ?_
      simp only [List.set]
      have so := sorts_eq (d := d) (ρ := [some (.c p), some (.d (.lst things)), some (.d d), some (.d (.lst [.lst (made_third d), .lst (List.replicate 8 d)])), some (.d (.lst (joint d ++ tailE))), some (.d (.lst dueL)), e, some (.d (.lst [.lst (made_first d), .lst (List.replicate 12 d)])), some (.d (.lst [.lst (made_second d), .lst (List.replicate 14 d)])), a, b, none, none]) hc2 rfl rfl
      have e1 : ((joint d ++ tailE).map fun x => match x with
        | .exn c _ => .int (srt c)
        | x => x) = dueL ++ [.int 13, .int 14, .int 15] := by rfl
      have e2 : (([0, 1, 2, 3, 4, 5, 6, 7, 8, 9, 10, 11, 12, 16, 17, 18, 19] : List Int).flatMap fun i => [Dat.int i, Dat.int i]) = dueL := by rfl
      rw [e1] at so
      rw [e2]
      have sh : shal 60 (.lst (dueL ++ [.int 13, .int 14, .int 15])) = true := by decide
      have es := eqD_self 60 _ sh
      have ad : DL.e2 addD (eV 5) (eN eLstD (as1 (eK (.int 13)) (as1 (eK (.int 14)) (as1 (eK (.int 15)) as0)))) [some (.c p), some (.d (.lst things)), some (.d d), some (.d (.lst [.lst (made_third d), .lst (List.replicate 8 d)])), some (.d (.lst (joint d ++ tailE))), some (.d (.lst dueL)), e, some (.d (.lst [.lst (made_first d), .lst (List.replicate 12 d)])), some (.d (.lst [.lst (made_second d), .lst (List.replicate 14 d)])), a, b, none, none] μ' = .ok (.d (.lst (dueL ++ [.int 13, .int 14, .int 15]))) μ' := by rfl
      refine wz_retP (.d (.bl true)) (DL.e2_ok so ad (WE.eq (by simp [es, sh]))) ?_
      exact ⟨.bl true, rfl, rfl, by rw [hcut]; exact s⟩
end DL.K01
set_option linter.all false
set_option maxRecDepth 100000
set_option maxHeartbeats 1000000
namespace DL.K01
open PySem PySem.Spec PyProof.Rows L2 DL
theorem rng1_nat (n : Nat) (h : n ≤ 1000) : rng1 (.d (.int (n : Nat))) = some (rngD 0 n) := by
  have hb : rngB (n : Int) := ⟨by omega, by omega⟩
  simp only [rng1, if_pos hb]
  rfl
theorem rng1_of (m : Int) (n : Nat) (h : m = n) (hn : n ≤ 1000) : rng1 (.d (.int m)) = some ((List.range n).map fun (i : Nat) => .int (i : Int)) := by
  subst h
  exact (rng1_nat n hn).trans (by simp [rngD])
theorem bls_rep (n : Nat) (b : Bool) : bls (List.replicate n (.bl b)) = some (List.replicate n b) := by
  rw [show List.replicate n (Dat.bl b) = (List.replicate n b).map .bl by simp]
  exact bls_map' _
theorem many_eq (n : Nat) : (if (2 : Int) < if (4 : Int) < (n : Int) then 4 else (n : Int) then if (4 : Int) < (n : Int) then 4 else (n : Int) else 2) = ((max 2 (min n 4) : Nat) : Int) := by
  split <;> split <;> omega
theorem law_q (ns : List Int) (hl : ns.length ≤ 63) (μ : List Cel) (hc : Clo μ) : ∃ μ', g_law [.d (.fl (ns.map .int))] μ = .ok (.d (.bl true)) μ' := by
  have key : WE (g_law [.d (.fl (ns.map .int))] μ) (fun v μ' => v = .d (.bl true)) X0 := by
    obtain ⟨A0, hA0⟩ : ∃ A0, DV.d (.fl (ns.map .int)) = A0 := ⟨_, rfl⟩
    rw [hA0]
    unfold g_law
    refine we_fnZ ?_
    show WZ (b_law [some A0, none, none, none] μ) _ _ _
    unfold b_law
    refine wz_setP (.d (.lst [.int 1000000, .int 20])) (by rfl) ?_
    simp only [List.set]
    refine wz_setP (.d (.lst [.int 1000000, .int 20, .int 20, .int 4])) (by rfl) ?_
    simp only [List.set]
    refine wz_setP (.d (.lst [.int 1000000, .int 20, .int 20, .int 4, .int 99, .int 1000000000])) (by rfl) ?_
    simp only [List.set]
    refine wz_setP (.d (.lst [.int 1000000, .int 20, .int 20, .int 4, .int 99, .int 1000000000, .int 9, .int 10000, .int 100])) (by rfl) ?_
    simp only [List.set]
    refine wz_ifF (WE.of_eq (by kernel_rfl) ⟨rfl, rfl⟩) ?_
    refine wz_setS (.d (.int ((max 2 (min ns.length 4) : Nat) : Int))) μ (by
      subst hA0
      simp [lenN]
      exact many_eq ns.length) ?_
    simp only [List.set]
    refine wz_retQ ?_
    rw [we_eN, we_as1]
    refine we_lcG (fun i : Nat => .int i) (fun y => y = .bl true) (List.range (max 2 (min ns.length 4))) (lim1000' (by rw [List.length_range]; omega)) ?_ fun k hk N hN => ?_
    · have r := rng1_of ((max 2 (min ns.length 4) : Nat) : Int) (max 2 (min ns.length 4)) rfl (by omega)
      simp
      refine ⟨_, r, by simp [rngD], hc, fun ys hy1 hy2 => ?_⟩
      rw [List.eq_replicate_iff.mpr ⟨rfl, hy2⟩]
      simp [seqs, bls_rep]
    · subst hA0
      have hk5 : k ≤ 1000 := by
        have := List.mem_range.mp hk
        omega
      obtain ⟨i, e1'⟩ := cell_eq ns k hk5 N
      obtain ⟨a', b', e2', q⟩ := pool_eq i N
      have hp : Pool (N ++ [plD a' b' 0]) N.length := ⟨a', b', 0, by simp, q⟩
      obtain ⟨v, μ', e3', rfl, s3⟩ := WE.ex (right_eq N.length (N ++ [plD a' b' 0]) hp (hN.app _))
      obtain ⟨_, a2, b2, c2, e4', _⟩ := s3
      simp [wipeR, e1', e2', e3']
      refine ⟨[plD a2 b2 c2], by rw [e4']; simp, by simp [plD, flatC]⟩
  obtain ⟨v, μ', e, rfl⟩ := key.ex
  exact ⟨μ', e⟩
end DL.K01
set_option linter.all false
namespace DL.K01
open PySem PySem.Spec PyProof.Rows L2 DL
theorem law_eq (ns : List Int) (hl : ns.length ≤ 63) : ∃ μ, g_law [.d (.fl (ns.map .int))] (mu0 lams) = .ok (.d (.bl true)) μ :=
  law_q ns hl (mu0 lams) rfl
end DL.K01
set_option Elab.async false
set_option linter.all false
set_option maxRecDepth 100000
set_option maxHeartbeats 0
open PySem PySem.W PySem.Calls PyProof.Rows
theorem PySem.Challenge.cw_streamscreens_k01_limits_and_errors_holds : PySem.Challenge.rw_streamscreens_k01_limits_and_errors.Holds := by
  refine DL.K01.fromRow fun k1 => ?_
  refine DL.head_endF (H := DL.K01.hk) (ob := DL.K01.ob) DL.K01.endf k1 DL.K01.ob_eq DL.K01.run ?hc
  refine DL.walk_dlL (l := PySem.Challenge.rw_streamscreens_k01_limits_and_errors) (n := 63) (k := 5) (ls := DL.K01.lams) rfl (by decide) DL.K01.endf.hdf ⟨rfl, by decide, by decide⟩ ?F
  intro w mg fa h Y G hmg0
  obtain ⟨K, KX, c, T⟩ := Y
  have hmg : mg ("law" : PySem.Str) = some (.ref fa) := by
    rw [← DL.K01.endf.nm]
    exact hmg0
  refine ⟨K, DL.K01.g_law, KX, T, fun base hk hn TB => ?_, fun ns hl => DL.K01.law_eq ns hl⟩
  have F := DL.K01.facts KX G c TB
  have e : fa = DL.K01.d_law.ad K := by
    have z := F.g_law
    rw [hmg] at z
    cases z
    rfl
  rw [e]
  exact DL.K01.c_law F
