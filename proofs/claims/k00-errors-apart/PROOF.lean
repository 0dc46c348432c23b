import PyProof.Rows.All
import Wide.All
import OpenK.AllK
import Wide.FinOn
import HandS.Base
import HandS.Call
import HandS.Exc
import HandS.Words
import HandS.ExcField
import KE.KSuper
import KE.KIsAll
import HandS.Head0
import HandS.Head1
import HandS.Head2
import HandS.HeadHook1
import HandS.HeadHook2
import HandS.ForMost
import HandS.ForExc
import HandS.Walk
import HandS.IsInst
import HandS.TupAny
import HandS.Wide
import HandS.Flow
import HandS.Lambda
import HandS.ExcIs
import HandS.Comp
import HandS.Iter
import PyProof.P3Eq
import HandS.Dict
import HandS.TupMul
import KE.GoesMore
import PyProof.EnumMake
import HandS.Deep
import HandS.WordsExc
import HandS.Small
import HandS.SortInts
import HandS.ExcValue
import HandS.StrMore
import HandS.EndTab
import PyProof.Rows.StrRev
import PyProof.StrLawsFirst
import KE.IntTextLaws
import KE.KIntText
import HandS.SetFor
import HandS.Conv
import HandS.Style
import HandS.More
import PyProof.TupleOfSeq
import PyProof.Rows.SortShellAny
import HandS.Strs
import PyProof.ReprRoads
import HandS.ExcInit
import HandS.ExcSuper
import KE.KExcSuper
import KE.KExcIs
import HandS.ExcBuiltin
import PySem.Challenge.RW_whyandwhynot_k00_errors_apart
set_option Elab.async false
set_option linter.all false
set_option maxRecDepth 100000
set_option maxHeartbeats 4000000
/-! DS0: what a head by one run looks at: addresses by names, facts by a Bool. -/
namespace DS
open PySem PySem.Spec PyProof.Rows L2
/-- the address of a name of the module's -/
def clK (K : PySem.W.Frag) (x : Str) : Addr := match PySem.W.nsIn K mainGlobals x with
  | some (some (.ref a)) => a
  | _ => 0
/-- the built-in classes that are asked for -/
def plainTy : List String := ["int", "bool", "str", "tuple", "list", "dict"]
/-- the classes of errors that may be caught, with all that is above each -/
abbrev ETab := List (Str × List Str)
def distinctB : List Nat → Bool
  | [] => true
  | a :: r => r.all (fun b => !(Nat.beq a b)) && distinctB r
/-! ### facts by a Bool -/
def gloB (K : PySem.W.Frag) (x : Str) : Bool := decide (PySem.W.nsIn K mainGlobals x = some (some (.ref (clK K x))))
def freeB (K : PySem.W.Frag) (x : Str) : Bool := decide (PySem.W.nsIn K mainGlobals x = some none)
def errKB (K : PySem.W.Frag) (x : Str) : Bool :=
  decide (PySem.W.findIn K (.ref (clK K x)) "__getattribute__" = some (some (.builtin "BaseException.__getattribute__"))) && (decide (PySem.W.findIn K (.ref (clK K x)) "__getattr__" = some none) && (decide (PySem.W.subIn K (.ref (clK K x)) (.type "BaseException") = some true) && (PySem.W.hasDictIn K (clK K x) &&
  (decide (PySem.W.findIn K (.ref (clK K x)) "__class__" = some (some (.builtin "object.__class__"))) && (decide (PySem.W.mroIn K (clK K x) (.type "object") = some true) &&
  plainTy.all fun n => decide (PySem.W.kitOne K (.ref (clK K x)) (.type n) = some false))))))
def comB (K : PySem.W.Frag) : Bool := decide (PySem.W.specialIn K (.builtin "object.__class__") "__get__" = some (some (.builtin "getset_descriptor.__get__"))) && decide (PySem.W.takesIn K (.builtin "object.__class__") = some true)
/-! classes asked for, by their mro's -/
def veN : List Str := [("ValueError" : Str), "Exception", "BaseException", "object"]
def veV : List Value := [.type "ValueError", .type "Exception", .type "BaseException", .type "object"]
def ownPart (l : List Str) : List Str := l.take (l.length - 4)
def mroB (K : PySem.W.Frag) (p : Str × List Str) : Bool := decide ((PySem.W.clsIn K (clK K p.1)).map (·.mro) = some ((ownPart p.2).map (fun n => Value.ref (clK K n)) ++ veV))
def clsB (K : PySem.W.Frag) (C : Str) : Bool := (PySem.W.clsIn K (clK K C)).isSome && PySem.W.typeIn K (.ref (clK K C)) == some (.type "type")
def tabOk (names : List Str) (errs : ETab) : Bool := (errs.all fun p => decide (p.2 = ownPart p.2 ++ veN) && ((ownPart p.2).all (fun n => names.contains n) && (ownPart p.2).contains p.1)) && names.all fun C => !veN.contains C
def isinB (K : PySem.W.Frag) (errs : ETab) (C : Str) (cv : Value) : Bool := errs.all fun p => decide (PySem.W.kitOne K (.ref (clK K p.1)) cv = some (p.2.contains C))
def ownB (K : PySem.W.Frag) (x : Str) : Bool := gloB K x && (PySem.W.excIn K (clK K x) [.type "ValueError", .type "Exception", .type "BaseException", .type "object"] "ValueError.__new__" && (PySem.W.keepIn K (.ref (clK K x)) && errKB K x))
def fldB (K : PySem.W.Frag) (T : List Str) (f : Str) : Bool := T.all fun x => xfB K (clK K x) && decide (PySem.W.findIn K (.ref (clK K x)) f = some none)
/-! ### classes with an __init__ of this kind -/
def initA (K : PySem.W.Frag) (x : Str) : Addr := match PySem.W.findIn K (.ref (clK K x)) "__init__" with
  | some (some (.ref a)) => a
  | _ => 0
abbrev SpW : Type := Option (Str × Str × Arguments × FuncBody × Scope × Addr × List Str × Addr)
def supW (K : PySem.W.Frag) (x : Str) : SpW := match K.lookup (initA K x) with
  | some ⟨_, _, .func fd, _⟩ => some (fd.name, fd.qualname, fd.params, fd.body, fd.scope, fd.globals, fd.closure.map (·.1), fd.builtins)
  | _ => none
/-- one such class: its name, its field, the text of its __init__ -/
structure SupD where
  x : Str
  f : Str
  st : Stmt
def SupD.val (d : SupD) : SpW := some ("__init__", d.x ++ ".__init__", defArgs d.st, .stmts (defBody d.st), defScope d.st, mainGlobals, ["__class__"], builtinsNs)
def clsOkB (K : PySem.W.Frag) (C : Addr) : Bool := match K.lookup C with
  | some ⟨.type "type", _, .cls cd, sl⟩ => (match cd.mro, sl.toList with
    | .ref C' :: bm, [_, _, _, _, some (.builtin n), _] => decide (C' = C) && (decide (n = "ValueError.__new__") && (!cd.hasDel && (cd.hasDict && PySem.HandSPX.refsVE bm)))
    | _, _ => false)
  | _ => false
def codeFileB (P : Program) (K : PySem.W.Frag) (cd : Value) : Bool := match cd with
  | .ref c => (match K.lookup c with
    | some ⟨_, _, .fields vs, _⟩ => (match (vs[2]? : Option Value) with | some (.str file _) => ((P.main.file : Str) == file) | _ => false)
    | _ => false)
  | _ => false
def cellB (K : PySem.W.Frag) (cl : List (Str × Addr)) (C : Addr) : Bool := match cl with
  | [(_, cc)] => (match K.lookup cc with
    | some ⟨_, _, .cell (some (.ref D)), _⟩ => decide (D = C)
    | _ => false)
  | _ => false
def noDef : Value → Bool
  | .none => true
  | _ => false
def supB (P : Program) (K : PySem.W.Frag) (d : SupD) : Bool :=
  gloB K d.x && (clsOkB K (clK K d.x) && (decide (PySem.W.findIn K (.ref (clK K d.x)) "__init__" = some (some (.ref (initA K d.x)))) && (decide (PySem.W.typeIn K (.ref (initA K d.x)) = some (.type "function")) &&
  ((match K.lookup (initA K d.x) with
    | some ⟨_, _, .func fd, _⟩ => PySem.W.codeIn K fd.code (d.x ++ ".__init__") && (codeFileB P K fd.code && (cellB K fd.closure (clK K d.x) && noDef fd.defaults))
    | _ => false) &&
  (decide (PySem.W.ks_superIn K (clK K d.x) (clK K d.x) "__init__" = some (some (.builtin "ValueError.__init__"))) && (decide (PySem.W.subIn K (.ref (clK K d.x)) (.type "ValueError") = some true) && (decide (PySem.W.mroIn K (clK K d.x) (.ref (clK K d.x)) = some true) &&
  (decide (PySem.W.findIn K (.ref (clK K d.x)) "__setattr__" = some (some (.builtin "object.__setattr__"))) && (decide (PySem.W.findIn K (.ref (clK K d.x)) d.f = some none) && (PySem.W.keepIn K (.ref (clK K d.x)) && errKB K d.x))))))))))
def com2B (P : Program) (K : PySem.W.Frag) : Bool := decide (PySem.W.nsIn K cStatics "thirdparty.any" = some none) && (decide (PySem.W.nsIn K mainGlobals "super" = some none) && !(P.main.scope.names.lookup ("super" : Str)).isSome)
/-! ### the Hook -/
abbrev AlC : Type := He.AlD × (Bool × List SpW)
def obsC (chk : PySem.W.Frag → Bool) (fn : List He.DefD) (sp : List SupD) (K : PySem.W.Frag) : AlC := (He.obsD [] fn K, (chk K, sp.map fun d => supW K d.x))
def valC (fn : List He.DefD) (sp : List SupD) : AlC := (He.valD fn, (true, sp.map SupD.val))
def SaysC (chk : PySem.W.Frag → Bool) (fn : List He.DefD) (sp : List SupD) (K : PySem.W.Frag) : Prop := obsC chk fn sp K = valC fn sp
def obsCG (n : Nat) (chk : PySem.W.Frag → Bool) (fn : List He.DefD) (sp : List SupD) (g : Addr → Option Obj) : AlC := obsC chk fn sp (He.frG g (cStatics :: He.asD g n))
def hookC (n : Nat) (chk : PySem.W.Frag → Bool) (fn : List He.DefD) (sp : List SupD) : PySem.W.Hook where
  α := AlC
  obs := fun s => obsCG n chk fn sp s.heap.get?
  val := fun _ => valC fn sp
  says := fun _ h => ∃ K : PySem.W.Frag, K.In h ∧ SaysC chk fn sp K
  of := fun _ _ e => ⟨_, He.frG_in, e⟩
  keeps := fun _ _ _ ⟨K, hK, c⟩ k => ⟨K, PySem.W.Frag.In.keeps hK k, c⟩
/-- a def of the top -/
def defD (x : Str) (st : Stmt) : He.DefD := ⟨(x, none), x, x, defArgs st, defBody st, defScope st, [], []⟩
end DS
set_option maxHeartbeats 0
namespace DS
open PySem PySem.Spec PyProof.Rows L2
def topS (i : Nat) : Stmt := PySem.Challenge.pw_whyandwhynot_k00_errors_apart.main.body.getD i (.Pass ⟨0, 0, 0, 0⟩)
abbrev st_law_begun : Stmt := topS 57
abbrev st_law_blended : Stmt := topS 58
abbrev st_law_draw : Stmt := topS 59
abbrev st_law_pick : Stmt := topS 60
abbrev st_law_k00_flags : Stmt := topS 61
abbrev st_law : Stmt := topS 62
def errT : ETab := [(("FactsError" : Str), (["FactsError", "ValueError", "Exception", "BaseException", "object"] : List Str)), (("BadBody" : Str), (["BadBody", "FactsError", "ValueError", "Exception", "BaseException", "object"] : List Str)), (("BadBook" : Str), (["BadBook", "FactsError", "ValueError", "Exception", "BaseException", "object"] : List Str)), (("BadBound" : Str), (["BadBound", "FactsError", "ValueError", "Exception", "BaseException", "object"] : List Str)), (("BadCase" : Str), (["BadCase", "FactsError", "ValueError", "Exception", "BaseException", "object"] : List Str)), (("BadChange" : Str), (["BadChange", "FactsError", "ValueError", "Exception", "BaseException", "object"] : List Str)), (("BadChanges" : Str), (["BadChanges", "FactsError", "ValueError", "Exception", "BaseException", "object"] : List Str)), (("BadClaims" : Str), (["BadClaims", "FactsError", "ValueError", "Exception", "BaseException", "object"] : List Str)), (("BadCode" : Str), (["BadCode", "FactsError", "ValueError", "Exception", "BaseException", "object"] : List Str)), (("BadCount" : Str), (["BadCount", "FactsError", "ValueError", "Exception", "BaseException", "object"] : List Str)), (("BadDeal" : Str), (["BadDeal", "FactsError", "ValueError", "Exception", "BaseException", "object"] : List Str)), (("BadFact" : Str), (["BadFact", "FactsError", "ValueError", "Exception", "BaseException", "object"] : List Str)), (("BadFacts" : Str), (["BadFacts", "FactsError", "ValueError", "Exception", "BaseException", "object"] : List Str)), (("BadFloor" : Str), (["BadFloor", "FactsError", "ValueError", "Exception", "BaseException", "object"] : List Str)), (("BadGoing" : Str), (["BadGoing", "FactsError", "ValueError", "Exception", "BaseException", "object"] : List Str)), (("BadHouse" : Str), (["BadHouse", "FactsError", "ValueError", "Exception", "BaseException", "object"] : List Str)), (("BadKept" : Str), (["BadKept", "FactsError", "ValueError", "Exception", "BaseException", "object"] : List Str)), (("BadLayer" : Str), (["BadLayer", "FactsError", "ValueError", "Exception", "BaseException", "object"] : List Str)), (("BadLayers" : Str), (["BadLayers", "FactsError", "ValueError", "Exception", "BaseException", "object"] : List Str)), (("BadLots" : Str), (["BadLots", "FactsError", "ValueError", "Exception", "BaseException", "object"] : List Str)), (("BadMeasure" : Str), (["BadMeasure", "FactsError", "ValueError", "Exception", "BaseException", "object"] : List Str)), (("BadModules" : Str), (["BadModules", "FactsError", "ValueError", "Exception", "BaseException", "object"] : List Str)), (("BadMoment" : Str), (["BadMoment", "FactsError", "ValueError", "Exception", "BaseException", "object"] : List Str)), (("BadName" : Str), (["BadName", "FactsError", "ValueError", "Exception", "BaseException", "object"] : List Str)), (("BadPairs" : Str), (["BadPairs", "FactsError", "ValueError", "Exception", "BaseException", "object"] : List Str)), (("BadPlan" : Str), (["BadPlan", "FactsError", "ValueError", "Exception", "BaseException", "object"] : List Str)), (("BadQuery" : Str), (["BadQuery", "FactsError", "ValueError", "Exception", "BaseException", "object"] : List Str)), (("BadRow" : Str), (["BadRow", "FactsError", "ValueError", "Exception", "BaseException", "object"] : List Str)), (("BadRule" : Str), (["BadRule", "FactsError", "ValueError", "Exception", "BaseException", "object"] : List Str)), (("BadSearches" : Str), (["BadSearches", "FactsError", "ValueError", "Exception", "BaseException", "object"] : List Str)), (("BadSigns" : Str), (["BadSigns", "FactsError", "ValueError", "Exception", "BaseException", "object"] : List Str)), (("BadSpread" : Str), (["BadSpread", "FactsError", "ValueError", "Exception", "BaseException", "object"] : List Str)), (("BadState" : Str), (["BadState", "FactsError", "ValueError", "Exception", "BaseException", "object"] : List Str)), (("BadStep" : Str), (["BadStep", "FactsError", "ValueError", "Exception", "BaseException", "object"] : List Str)), (("BadSum" : Str), (["BadSum", "FactsError", "ValueError", "Exception", "BaseException", "object"] : List Str)), (("BadText" : Str), (["BadText", "FactsError", "ValueError", "Exception", "BaseException", "object"] : List Str)), (("BadThing" : Str), (["BadThing", "FactsError", "ValueError", "Exception", "BaseException", "object"] : List Str)), (("BadWish" : Str), (["BadWish", "FactsError", "ValueError", "Exception", "BaseException", "object"] : List Str)), (("Broken" : Str), (["Broken", "FactsError", "ValueError", "Exception", "BaseException", "object"] : List Str)), (("CannotChange" : Str), (["CannotChange", "FactsError", "ValueError", "Exception", "BaseException", "object"] : List Str)), (("CannotDeal" : Str), (["CannotDeal", "FactsError", "ValueError", "Exception", "BaseException", "object"] : List Str)), (("Heavy" : Str), (["Heavy", "FactsError", "ValueError", "Exception", "BaseException", "object"] : List Str)), (("LargeMeaning" : Str), (["LargeMeaning", "FactsError", "ValueError", "Exception", "BaseException", "object"] : List Str)), (("NoAskingText" : Str), (["NoAskingText", "FactsError", "ValueError", "Exception", "BaseException", "object"] : List Str)), (("NoPapers" : Str), (["NoPapers", "FactsError", "ValueError", "Exception", "BaseException", "object"] : List Str)), (("NoStep" : Str), (["NoStep", "FactsError", "ValueError", "Exception", "BaseException", "object"] : List Str)), (("NotClosed" : Str), (["NotClosed", "FactsError", "ValueError", "Exception", "BaseException", "object"] : List Str)), (("NotOut" : Str), (["NotOut", "FactsError", "ValueError", "Exception", "BaseException", "object"] : List Str)), (("NotSayable" : Str), (["NotSayable", "FactsError", "ValueError", "Exception", "BaseException", "object"] : List Str)), (("NothingDone" : Str), (["NothingDone", "FactsError", "ValueError", "Exception", "BaseException", "object"] : List Str)), (("NothingUndone" : Str), (["NothingUndone", "FactsError", "ValueError", "Exception", "BaseException", "object"] : List Str)), (("TooLarge" : Str), (["TooLarge", "FactsError", "ValueError", "Exception", "BaseException", "object"] : List Str)), (("TooManyWays" : Str), (["TooManyWays", "FactsError", "ValueError", "Exception", "BaseException", "object"] : List Str)), (("Undecided" : Str), (["Undecided", "FactsError", "ValueError", "Exception", "BaseException", "object"] : List Str)), (("Wide" : Str), (["Wide", "FactsError", "ValueError", "Exception", "BaseException", "object"] : List Str))]
def fT_at : List Str := ["BadSigns"]
def fT_number : List Str := ["BadRow", "Wide"]
def fT_fault : List Str := ["BadModules", "NoAskingText"]
def fT_word : List Str := ["CannotChange", "CannotDeal"]
def fT_name : List Str := ["Broken", "Undecided"]
def fT_most : List Str := ["TooManyWays"]
abbrev P0 : Program := PySem.Challenge.pw_whyandwhynot_k00_errors_apart
def iniS : Stmt → Stmt
  | .ClassDef _ _ _ (s :: _) _ _ _ _ _ _ _ => s
  | s => s
def su_BadModules : SupD := ⟨"BadModules", "fault", iniS (topS 22)⟩
def su_BadSigns : SupD := ⟨"BadSigns", "at", iniS (topS 31)⟩
def su_BadRow : SupD := ⟨"BadRow", "number", iniS (topS 28)⟩
def su_CannotDeal : SupD := ⟨"CannotDeal", "word", iniS (topS 41)⟩
def su_CannotChange : SupD := ⟨"CannotChange", "word", iniS (topS 40)⟩
def su_Broken : SupD := ⟨"Broken", "name", iniS (topS 39)⟩
def su_NoAskingText : SupD := ⟨"NoAskingText", "fault", iniS (topS 44)⟩
def su_Wide : SupD := ⟨"Wide", "number", iniS (topS 55)⟩
def su_Undecided : SupD := ⟨"Undecided", "name", iniS (topS 54)⟩
def su_TooManyWays : SupD := ⟨"TooManyWays", "most", iniS (topS 53)⟩
def LB : List Str := [("len" : Str), ("isinstance" : Str), ("range" : Str), ("min" : Str), ("enumerate" : Str), ("ValueError" : Str), ("repr" : Str), ("abs" : Str), ("int" : Str)]
def LO : List Str := [("BadChanges" : Str), ("BadChange" : Str), ("BadCase" : Str), ("BadBound" : Str), ("BadBook" : Str), ("BadBody" : Str), ("BadFacts" : Str), ("BadFact" : Str), ("BadDeal" : Str), ("BadCount" : Str), ("BadCode" : Str), ("BadClaims" : Str), ("BadLayers" : Str), ("BadLayer" : Str), ("BadKept" : Str), ("BadHouse" : Str), ("BadGoing" : Str), ("BadFloor" : Str), ("BadPairs" : Str), ("BadName" : Str), ("BadMoment" : Str), ("BadMeasure" : Str), ("BadLots" : Str), ("BadSearches" : Str), ("BadRule" : Str)] ++ [("BadQuery" : Str), ("BadPlan" : Str), ("BadThing" : Str), ("BadText" : Str), ("BadSum" : Str), ("BadStep" : Str), ("BadState" : Str), ("BadSpread" : Str), ("LargeMeaning" : Str), ("Heavy" : Str), ("BadWish" : Str), ("NotSayable" : Str), ("NotOut" : Str), ("NotClosed" : Str), ("NoStep" : Str), ("NoPapers" : Str), ("TooLarge" : Str), ("NothingUndone" : Str), ("NothingDone" : Str), ("FactsError" : Str)]
def spT : List SupD := [su_BadModules, su_BadSigns, su_BadRow, su_CannotDeal, su_CannotChange, su_Broken, su_NoAskingText, su_Wide, su_Undecided, su_TooManyWays]
def LI : List Str := [("BadCase" : Str), ("BadBound" : Str), ("BadBook" : Str), ("BadBody" : Str), ("BadCode" : Str), ("BadClaims" : Str), ("BadChanges" : Str), ("BadChange" : Str), ("BadFacts" : Str), ("BadFact" : Str), ("BadDeal" : Str), ("BadCount" : Str), ("BadKept" : Str), ("BadHouse" : Str), ("BadGoing" : Str), ("BadFloor" : Str), ("BadMeasure" : Str), ("BadLots" : Str), ("BadLayers" : Str), ("BadLayer" : Str), ("BadPairs" : Str), ("BadName" : Str), ("BadMoment" : Str), ("BadModules" : Str), ("BadRule" : Str)] ++ [("BadRow" : Str), ("BadQuery" : Str), ("BadPlan" : Str), ("BadState" : Str), ("BadSpread" : Str), ("BadSigns" : Str), ("BadSearches" : Str), ("BadThing" : Str), ("BadText" : Str), ("BadSum" : Str), ("BadStep" : Str), ("CannotDeal" : Str), ("CannotChange" : Str), ("Broken" : Str), ("BadWish" : Str), ("NoPapers" : Str), ("NoAskingText" : Str), ("LargeMeaning" : Str), ("Heavy" : Str), ("NotSayable" : Str), ("NotOut" : Str), ("NotClosed" : Str), ("NoStep" : Str), ("TooManyWays" : Str), ("TooLarge" : Str)] ++ [("NothingUndone" : Str), ("NothingDone" : Str), ("Wide" : Str), ("Undecided" : Str), ("FactsError" : Str)]
def LN : List String := ["ValueError"]
def LV : List Str := [("FactsError" : Str)]
def LF : List Str := [("law" : Str), ("_law_begun" : Str), ("_law_blended" : Str), ("_law_draw" : Str), ("_law_pick" : Str), ("_law_k00_flags" : Str)]
def fnT : List He.DefD := [defD "law" st_law, defD "_law_begun" st_law_begun, defD "_law_blended" st_law_blended, defD "_law_draw" st_law_draw, defD "_law_pick" st_law_pick, defD "_law_k00_flags" st_law_k00_flags]
def chkF (K : PySem.W.Frag) : Bool := fldB K fT_at "at" && fldB K fT_number "number" && fldB K fT_fault "fault" && fldB K fT_word "word" && fldB K fT_name "name" && fldB K fT_most "most"
def chkT (K : PySem.W.Frag) : Bool := comB K && (com2B P0 K && (LB.all (freeB K) && (LO.all (ownB K) && (spT.all (supB P0 K) && (LI.all (fun C => gloB K C && clsB K C) && (errT.all (mroB K) && (distinctB (LI.map (clK K)) && (LN.all (fun n => isinB K errT (Str.ofString n) (.type n)) && (LV.all (fun C => gloB K C && decide (PySem.W.kitOne K (.type "ValueError") (.ref (clK K C)) = some false)) && (LF.all (gloB K) && chkF K))))))))))
def namesT : List PySem.Str := [("FactsError" : Str), ("BadBody" : Str), ("BadBook" : Str), ("BadBound" : Str), ("BadCase" : Str), ("BadChange" : Str), ("BadChanges" : Str), ("BadClaims" : Str), ("BadCode" : Str), ("BadCount" : Str), ("BadDeal" : Str), ("BadFact" : Str), ("BadFacts" : Str), ("BadFloor" : Str), ("BadGoing" : Str), ("BadHouse" : Str), ("BadKept" : Str), ("BadLayer" : Str), ("BadLayers" : Str), ("BadLots" : Str), ("BadMeasure" : Str), ("BadModules" : Str), ("BadMoment" : Str), ("BadName" : Str), ("BadPairs" : Str)] ++ [("BadPlan" : Str), ("BadQuery" : Str), ("BadRow" : Str), ("BadRule" : Str), ("BadSearches" : Str), ("BadSigns" : Str), ("BadSpread" : Str), ("BadState" : Str), ("BadStep" : Str), ("BadSum" : Str), ("BadText" : Str), ("BadThing" : Str), ("BadWish" : Str), ("Broken" : Str), ("CannotChange" : Str), ("CannotDeal" : Str), ("Heavy" : Str), ("LargeMeaning" : Str), ("NoAskingText" : Str), ("NoPapers" : Str), ("NoStep" : Str), ("NotClosed" : Str), ("NotOut" : Str), ("NotSayable" : Str), ("NothingDone" : Str)] ++ [("NothingUndone" : Str), ("TooLarge" : Str), ("TooManyWays" : Str), ("Undecided" : Str), ("Wide" : Str), ("_law_begun" : Str), ("_law_blended" : Str), ("_law_draw" : Str), ("_law_pick" : Str), ("_law_k00_flags" : Str)]
abbrev RT : PySem.W.OpenRow := PySem.W.OpenLaw.row PySem.Challenge.rw_whyandwhynot_k00_errors_apart
abbrev hkT : PySem.W.Hook := hookC 4 chkT fnT spT
def obT (s : PySem.W.SharedT) : AlC := obsCG 4 chkT fnT spT (HandSHeadRun.getT s)
theorem runT (w : World) : HandSHeadRun.RunEq RT (PySem.W.view RT.prog [62]) hkT obT 14000 namesT w := by
  intro os
  kernel_rfl
end DS
set_option maxHeartbeats 4000000
/-! DS1: plain data over the abstract heap; judgements whose meaning speaks of plain data alone. -/
namespace DS
open PySem PySem.Spec PyProof.Rows L2

/-- plain data -/
inductive D where
  | non | bl (b : Bool) | int (i : Int) | str (x : Str) | tup (ds : List D) | lst (ds : List D) | dic (ks : List Key) (vs : List D) | st | err (x : Str) (ks : List Str) (vs : List D)

/-- no table of code objects -/
def nT (o : HO) : Prop := ∀ ps, o ≠ .tbl ps
theorem nTL {xs : List V} : nT (.lst xs) := fun _ z => by cases z
theorem nTT {xs : List V} : nT (.tup xs) := fun _ z => by cases z
theorem nTK {xs : List (Key × V)} : nT (.dK xs) := fun _ z => by cases z
theorem nTD {xs : List (List Key × V)} : nT (.dT xs) := fun _ z => by cases z
theorem nTF {o : Obj} {u : HO} : nT (.frz o u) := fun _ z => by cases z
/-- nothing is tracked there but a table, perhaps -/
def Fr (H : Hp) (p : Addr) : Prop := ∀ o, H p = some o → ¬ nT o
theorem Fr.of {H : Hp} {p : Addr} (h : H p = none) : Fr H p := fun o e => by rw [h] at e; cases e
theorem Fr.ne {H : Hp} {p b : Addr} {o : HO} (h : Fr H p) (e : H b = some o) (t : nT o) : b ≠ p := fun z => h o (by rw [← z]; exact e) t
/-- which objects may be changed (O), the dict of the source of draws, its list of great numbers, its cells; the tables of code objects -/
structure Co where
  O : Addr → Prop
  sd : Addr
  sg : Addr
  sl : Addr
  T : List (Addr × Str)

def KL (K : PySem.W.Frag) (a : Addr) (xs : List V) : Prop :=
  ∃ (o : Obj) (its : Array Value) (n : Nat), K.lookup a = some o ∧ o.cls = .type "list" ∧ o.dict = none ∧ o.data = .seq its n ∧ its.size ≤ sizeLine ∧ Vals xs its.toList
def KT (K : PySem.W.Frag) (a : Addr) (xs : List V) : Prop :=
  ∃ (o : Obj) (its : Array Value) (n : Nat), K.lookup a = some o ∧ o.cls = .type "tuple" ∧ o.data = .seq its n ∧ its.size ≤ sizeLine ∧ Vals xs its.toList
def NL (K : PySem.W.Frag) (c : Co) (H : Hp) (a : Addr) (xs : List V) : Prop := (Rd H a (.lst xs) ∧ ¬ c.O a) ∨ KL K a xs
def NT (K : PySem.W.Frag) (c : Co) (H : Hp) (a : Addr) (xs : List V) : Prop := (Rd H a (.tup xs) ∧ ¬ c.O a) ∨ KT K a xs
theorem NL.sq {K c H a xs} (h : NL K c H a xs) : SqL K H a xs := h.elim (fun h => .inl h.1) .inr
theorem NT.sq {K c H a xs} (h : NT K c H a xs) : SqT K H a xs := h.elim (fun h => .inl h.1) .inr

/-- the object of a caught error, its class and its dict -/
def ExT (cls : Value) (d : Option Addr) (a : Addr) : HO := .ext fun h => ∃ (oe : Obj) (vs : Array Value), h.get? a = some oe ∧ Zc cls d oe ∧ oe.data = .fields vs
theorem exT_ok {P : Program} {w : World} {H : Hp} {h : Heap} {a : Addr} {cls : Value} {d : Option Addr} {oe : Obj} {vs : Array Value} (e : h.get? a = some oe) (z : Zc cls d oe) (hd : oe.data = .fields vs) : ObjOk P w H h a (ExT cls d a) :=
  ⟨⟨oe, vs, e, z, hd⟩, ⟨oe, e⟩, fun _ _ ⟨o, v, q, r⟩ k => ⟨o, v, k o q, r⟩⟩
theorem nTE {cls : Value} {d : Option Addr} {a : Addr} : nT (ExT cls d a) := fun _ z => by cases z
theorem nTX {xs : List (Str × V)} : nT (.xd xs) := fun _ z => by cases z
/-- an error's own dict, held -/
def XdAt (H : Hp) (O : Addr → Prop) (dd : Option Addr) (ks : List Str) (us : List V) : Prop :=
  (ks = [] ∧ dd = none) ∨ ks ≠ [] ∧ ∃ d, dd = some d ∧ H d = some (.xd (ks.zip us)) ∧ ¬ O d

/-- a text as the model holds it -/
def SOk (x : Str) : Prop := x.length ≤ sizeLine ∧ PyData.strOk x = true
def sokB (x : Str) : Bool := decide (x.length ≤ 4096) && PyData.strOk x
theorem sok_of {x : Str} (h : sokB x = true) : SOk x := by
  unfold sokB at h
  rw [Bool.and_eq_true, decide_eq_true_eq] at h
  exact ⟨Nat.le_trans h.1 (by rw [sizeLine_eq]; decide), h.2⟩
theorem strOk_iff {x : Str} : PyData.strOk x = true ↔ ∀ c ∈ x.cps.toList, c < 0x110000 := by
  unfold PyData.strOk
  rw [← Array.all_toList, List.all_eq_true]
  simp only [decide_eq_true_eq]
theorem sok_sign {z : Str} (h : SOk z) {c : Nat} (hc : c ∈ z.cps.toList) : SOk ⟨#[c]⟩ :=
  ⟨by show 1 ≤ sizeLine; rw [sizeLine_eq]; decide, strOk_iff.mpr fun d hd => by
    have e : d = c := by simpa using hd
    rw [e]; exact strOk_iff.mp h.2 c hc⟩
theorem cps_append (a b : Str) : (a ++ b).cps.toList = a.cps.toList ++ b.cps.toList := by
  show (a.cps ++ b.cps).toList = _
  simp
theorem sok_append {a b : Str} (ha : SOk a) (hb : SOk b) (h : a.length + b.length ≤ sizeLine) : SOk (a ++ b) := by
  refine ⟨?_, strOk_iff.mpr fun c hc => ?_⟩
  · show (a.cps ++ b.cps).size ≤ sizeLine
    rw [Array.size_append]; exact h
  · rw [cps_append, List.mem_append] at hc
    exact hc.elim (strOk_iff.mp ha.2 c) (strOk_iff.mp hb.2 c)
theorem sok_sub {a b : Str} (ha : SOk a) (hl : b.length ≤ a.length) (h : ∀ c ∈ b.cps.toList, c ∈ a.cps.toList) : SOk b :=
  ⟨Nat.le_trans hl ha.1, strOk_iff.mpr fun c hc => strOk_iff.mp ha.2 c (h c hc)⟩
/-- an own class of errors is of none of the plain classes -/
structure ErrK (K : PySem.W.Frag) (x : Str) : Prop where
  ec : ExcC K (clK K x)
  pl : ∀ n ∈ plainTy, PySem.W.kitOne K (.ref (clK K x)) (.type n) = some false

mutual
inductive At (K : PySem.W.Frag) (c : Co) (H : Hp) : V → D → Prop
  | non : At K c H .non .non
  | bl (b : Bool) : At K c H (.bl b) (.bl b)
  | int (i : Int) : At K c H (.int i) (.int i)
  | str (x : Str) (h : SOk x) : At K c H (.str x) (.str x)
  | st : At K c H (.ref c.sd) .st
  | tup {a : Addr} {xs : List V} {ds : List D} : NT K c H a xs → xs.length ≤ sizeLine → AtL K c H xs ds → At K c H (.ref a) (.tup ds)
  | lst {a : Addr} {xs : List V} {ds : List D} : NL K c H a xs → xs.length ≤ sizeLine → AtL K c H xs ds → At K c H (.ref a) (.lst ds)
  | dic {a : Addr} {kvs : List (Key × V)} {vs : List D} : (Rd H a (.dK kvs) ∧ ¬ c.O a) → kvs.length ≤ sizeLine → AtL K c H (kvs.map (·.2)) vs → At K c H (.ref a) (.dic (kvs.map (·.1)) vs)
  | err {a : Addr} {dd : Option Addr} {x : Str} {ks : List Str} {us : List V} {vs : List D} : ErrK K x → H a = some (ExT (.ref (clK K x)) dd a) → ¬ c.O a → XdAt H c.O dd ks us → AtL K c H us vs → At K c H (.ref a) (.err x ks vs)
inductive AtL (K : PySem.W.Frag) (c : Co) (H : Hp) : List V → List D → Prop
  | nil : AtL K c H [] []
  | cons {v : V} {vs : List V} {d : D} {ds : List D} : At K c H v d → AtL K c H vs ds → AtL K c H (v :: vs) (d :: ds)
end

section
variable {K : PySem.W.Frag} {c c' : Co} {H H' : Hp}
/-- nodes that may not be changed stand on -/
def Evo (c : Co) (H : Hp) (c' : Co) (H' : Hp) : Prop := c'.sd = c.sd ∧ ∀ b o, H b = some o → nT o → ¬ c.O b → H' b = some o ∧ ¬ c'.O b
theorem Evo.refl : Evo c H c H := ⟨rfl, fun _ _ h _ n => ⟨h, n⟩⟩
theorem Evo.trans {c2 : Co} {H2 : Hp} (a : Evo c H c' H') (b : Evo c' H' c2 H2) : Evo c H c2 H2 :=
  ⟨b.1.trans a.1, fun x o h t n => let ⟨h1, n1⟩ := a.2 x o h t n; b.2 x o h1 t n1⟩
theorem Evo.rd (e : Evo c H c' H') {a : Addr} {u : HO} (t : nT u) (h : Rd H a u ∧ ¬ c.O a) : Rd H' a u ∧ ¬ c'.O a := by
  obtain ⟨h | ⟨o, h⟩, n⟩ := h
  · exact ⟨.inl (e.2 _ _ h t n).1, (e.2 _ _ h t n).2⟩
  · exact ⟨.inr ⟨o, (e.2 _ _ h nTF n).1⟩, (e.2 _ _ h nTF n).2⟩
theorem NL.evo (e : Evo c H c' H') {a xs} (h : NL K c H a xs) : NL K c' H' a xs := h.elim (fun h => .inl (e.rd nTL h)) .inr
theorem NT.evo (e : Evo c H c' H') {a xs} (h : NT K c H a xs) : NT K c' H' a xs := h.elim (fun h => .inl (e.rd nTT h)) .inr
mutual
theorem At.evo (e : Evo c H c' H') : ∀ {d : D} {v : V}, At K c H v d → At K c' H' v d
  | .non, _, .non => .non
  | .bl _, _, .bl b => .bl b
  | .int _, _, .int b => .int b
  | .str _, _, .str b h => .str b h
  | .st, _, .st => by rw [← e.1]; exact .st
  | .tup ds, _, .tup h l r => .tup (h.evo e) l (AtL.evo e r)
  | .lst ds, _, .lst h l r => .lst (h.evo e) l (AtL.evo e r)
  | .dic ks vs, _, h => by
    cases h with
    | dic h l r => exact .dic (e.rd nTK h) l (AtL.evo e r)
  | .err x ks vs, _, .err ek h n q r => .err ek (e.2 _ _ h nTE n).1 (e.2 _ _ h nTE n).2 (q.imp id fun ⟨nk, d, e1, e2, n2⟩ => ⟨nk, d, e1, (e.2 _ _ e2 nTX n2).1, (e.2 _ _ e2 nTX n2).2⟩) (AtL.evo e r)
theorem AtL.evo (e : Evo c H c' H') : ∀ {ds : List D} {vs : List V}, AtL K c H vs ds → AtL K c' H' vs ds
  | [], _, .nil => .nil
  | d :: ds, _, .cons h r => .cons (At.evo e h) (AtL.evo e r)
end
theorem AtL.length : ∀ {ds : List D} {vs : List V}, AtL K c H vs ds → vs.length = ds.length
  | [], _, .nil => rfl
  | d :: ds, _, .cons h r => by rw [List.length_cons, List.length_cons, AtL.length r]
theorem AtL.get : ∀ {ds : List D} {vs : List V} {i : Nat} {v : V} {d : D}, AtL K c H vs ds → vs[i]? = some v → ds[i]? = some d → At K c H v d
  | _, _, 0, _, _, .cons h r, e1, e2 => by
    rw [List.getElem?_cons_zero] at e1 e2
    cases e1; cases e2; exact h
  | _, _, i + 1, _, _, .cons h r, e1, e2 => by
    rw [List.getElem?_cons_succ] at e1 e2
    exact AtL.get r e1 e2
theorem AtL.some_of {ds : List D} {vs : List V} {i : Nat} {d : D} (h : AtL K c H vs ds) (e : ds[i]? = some d) : ∃ v, vs[i]? = some v ∧ At K c H v d := by
  have hi : i < vs.length := by
    rw [h.length]
    exact (List.getElem?_eq_some_iff.mp e).1
  exact ⟨vs[i], List.getElem?_eq_getElem hi, h.get (List.getElem?_eq_getElem hi) e⟩
theorem AtL.some_v {ds : List D} {vs : List V} {i : Nat} {v : V} (h : AtL K c H vs ds) (e : vs[i]? = some v) : ∃ d, ds[i]? = some d ∧ At K c H v d := by
  have hi : i < ds.length := by
    rw [← h.length]
    exact (List.getElem?_eq_some_iff.mp e).1
  exact ⟨ds[i], List.getElem?_eq_getElem hi, h.get e (List.getElem?_eq_getElem hi)⟩
theorem AtL.append : ∀ {ds : List D} {vs : List V} {es : List D} {us : List V}, AtL K c H vs ds → AtL K c H us es → AtL K c H (vs ++ us) (ds ++ es)
  | [], _, _, _, .nil, r => r
  | d :: ds, _, _, _, .cons h t, r => .cons h (AtL.append t r)
theorem AtL.take : ∀ {ds : List D} {vs : List V} (n : Nat), AtL K c H vs ds → AtL K c H (vs.take n) (ds.take n)
  | _, _, 0, _ => .nil
  | _, _, n + 1, .nil => .nil
  | _, _, n + 1, .cons h t => .cons h (AtL.take n t)
theorem AtL.drop : ∀ {ds : List D} {vs : List V} (n : Nat), AtL K c H vs ds → AtL K c H (vs.drop n) (ds.drop n)
  | _, _, 0, h => h
  | _, _, n + 1, .nil => .nil
  | _, _, n + 1, .cons h t => AtL.drop n t
theorem AtL.reverse : ∀ {ds : List D} {vs : List V}, AtL K c H vs ds → AtL K c H vs.reverse ds.reverse
  | _, _, .nil => .nil
  | _, _, .cons h t => by rw [List.reverse_cons, List.reverse_cons]; exact (AtL.reverse t).append (.cons h .nil)
theorem AtL.bls : ∀ {bs : List Bool} {vs : List V}, AtL K c H vs (bs.map D.bl) → vs = bs.map V.bl
  | [], _, .nil => rfl
  | b :: bs, _, .cons (.bl _) t => by rw [List.map_cons, AtL.bls t]
theorem AtL.ints : ∀ {bs : List Int} {vs : List V}, AtL K c H vs (bs.map D.int) → vs = bs.map V.int
  | [], _, .nil => rfl
  | b :: bs, _, .cons (.int _) t => by rw [List.map_cons, AtL.ints t]
theorem AtL.strs : ∀ {bs : List Str} {vs : List V}, AtL K c H vs (bs.map D.str) → vs = bs.map V.str
  | [], _, .nil => rfl
  | b :: bs, _, .cons (.str _ _) t => by rw [List.map_cons, AtL.strs t]
theorem AtL.of_ints : ∀ (bs : List Int), AtL K c H (bs.map V.int) (bs.map D.int)
  | [] => .nil
  | b :: bs => .cons (.int b) (AtL.of_ints bs)
theorem AtL.of_strs : ∀ (bs : List Str), (∀ b ∈ bs, SOk b) → AtL K c H (bs.map V.str) (bs.map D.str)
  | [], _ => .nil
  | b :: bs, h => .cons (.str b (h b List.mem_cons_self)) (AtL.of_strs bs fun x hx => h x (List.mem_cons_of_mem _ hx))
theorem At.sok {v : V} {x : Str} (a : At K c H v (.str x)) : SOk x := by cases a; assumption
theorem AtL.soks : ∀ {bs : List Str} {vs : List V}, AtL K c H vs (bs.map D.str) → ∀ b ∈ bs, SOk b
  | [], _, .nil, _, h => by cases h
  | b :: bs, _, .cons a t, x, h => by
    rcases List.mem_cons.mp h with z | z
    · rw [z]; exact a.sok
    · exact AtL.soks t x z
end

/-! ### the source of draws -/
def kGreat : Key := .inr "great"
def kCells : Key := .inr "cells"
def kLeft : Key := .inr "left"
def kTurn : Key := .inr "turn"
/-- the source of draws stands -/
def StInv (c : Co) (H : Hp) : Prop := ∃ (great cells : List Int) (left turn : Int),
  H c.sd = some (.dK [(kGreat, .ref c.sg), (kCells, .ref c.sl), (kLeft, .int left), (kTurn, .int turn)]) ∧ H c.sg = some (.lst (great.map V.int)) ∧ H c.sl = some (.lst (cells.map V.int)) ∧
  c.sl ≠ c.sg ∧ great.length ≤ 63 ∧ 0 ≤ left ∧ 0 ≤ turn ∧ (∀ g ∈ great, 0 ≤ g) ∧ LamX.Tabs c.T H
/-- tables stand when something else is written -/
theorem tabs_upd {T : List (Addr × Str)} {H : Hp} {p : Addr} {o o' : HO} (h : LamX.Tabs T H) (e : H p = some o) (t : nT o) (t2 : ∀ c q, o ≠ LamX.CodeO c q) : LamX.Tabs T (upd H p o') := fun q hq => by
  obtain ⟨ps, h1, h2, h3⟩ := h q hq
  have n1 : q.1 ≠ p := fun z => by rw [z, e] at h1; exact t ps (Option.some.inj h1)
  refine ⟨ps, by rw [upd_ne n1]; exact h1, h2, fun pos cv hc => ?_⟩
  obtain ⟨c, e1, e2⟩ := h3 pos cv hc
  have n2 : c ≠ p := fun z => by rw [z, e] at e2; exact t2 _ _ (Option.some.inj e2)
  exact ⟨c, e1, by rw [upd_ne n2]; exact e2⟩
theorem nCL {xs : List V} : ∀ (c : Addr) (q : Str), (HO.lst xs) ≠ LamX.CodeO c q := fun c q z => by unfold LamX.CodeO at z; cases z
theorem nCK {xs : List (Key × V)} : ∀ (c : Addr) (q : Str), (HO.dK xs) ≠ LamX.CodeO c q := fun c q z => by unfold LamX.CodeO at z; cases z
theorem nCD {xs : List (List Key × V)} : ∀ (c : Addr) (q : Str), (HO.dT xs) ≠ LamX.CodeO c q := fun c q z => by unfold LamX.CodeO at z; cases z
theorem StInv.tabs {c : Co} {H : Hp} (h : StInv c H) : LamX.Tabs c.T H := by
  obtain ⟨_, _, _, _, _, _, _, _, _, _, _, _, q⟩ := h
  exact q
/-- how many draws were mixed -/
def trn (a : Addr) (H : Hp) : Nat := match H a with
  | some (.dK [_, _, _, (_, .int t)]) => t.toNat
  | _ => 0
/-- no more than so many may be -/
def most : Nat := 2 ^ 100000
theorem bd1 {t a b m : Nat} (h : t + (a + b) ≤ m) : t + a ≤ m := by omega
theorem bd2 {t t1 a b m : Nat} (h : t + (a + b) ≤ m) (s : t1 ≤ t + a) : t1 + b ≤ m := by omega
theorem bdR {t a b m : Nat} (h : t + (a + b) ≤ m) : t + b ≤ m := by omega
theorem up1 {t x a b : Nat} (h : x ≤ t + a) : x ≤ t + (a + b) := by omega
theorem up2 {t t1 a b : Nat} (h : t1 ≤ t + a) : t1 + b ≤ t + (a + b) := by omega
theorem up3 {t t1 a b c : Nat} (h : t1 ≤ t + a) : t1 + b ≤ t + (a + (b + c)) := by omega
theorem up4 {t t1 a b c : Nat} (h : t1 ≤ t + a) : t1 + c ≤ t + (a + (b + c)) := by omega
theorem up5 {t t1 t2 a b : Nat} (h : t1 ≤ t + a) (h2 : t2 ≤ t1 + b) : t2 ≤ t + (a + b) := by omega
theorem bd3 {t t1 t2 a b c m : Nat} (h : t + (a + b + c) ≤ m) (s : t1 ≤ t + a) (s2 : t2 ≤ t1 + b) : t2 + c ≤ m := by omega
/-- only the source of draws is changed -/
def Run (c : Co) (H H' : Hp) : Prop := StInv c H' ∧ ∀ b o, H b = some o → b ≠ c.sd → b ≠ c.sg → nT o → H' b = some o
/-- .. with at most n draws -/
structure Step (n : Nat) (c : Co) (H H' : Hp) : Prop where
  inv : StInv c H'
  fr : ∀ b o, H b = some o → b ≠ c.sd → b ≠ c.sg → nT o → H' b = some o
  le : trn c.sd H' ≤ trn c.sd H + n
theorem Step.run {n : Nat} {c : Co} {H H' : Hp} (h : Step n c H H') : Run c H H' := ⟨h.1, h.2⟩
theorem Run.refl {c : Co} {H : Hp} (h : StInv c H) : Run c H H := ⟨h, fun _ _ h _ _ _ => h⟩
theorem Step.refl {n : Nat} {c : Co} {H : Hp} (h : StInv c H) : Step n c H H := ⟨h, fun _ _ h _ _ _ => h, Nat.le_add_right _ _⟩
theorem Step.trans {n m : Nat} {c : Co} {H H1 H2 : Hp} (a : Step n c H H1) (b : Step m c H1 H2) : Step (n + m) c H H2 := ⟨b.1, fun x o h n m t => b.2 x o (a.2 x o h n m t) n m t, by have := a.3; have := b.3; omega⟩
theorem Step.mono {n m : Nat} {c : Co} {H H1 : Hp} (a : Step n c H H1) (h : n ≤ m) : Step m c H H1 := ⟨a.1, a.2, by have := a.3; omega⟩
theorem Step.inl {n m : Nat} {c : Co} {H H1 : Hp} (a : Step n c H H1) : Step (n + m) c H H1 := a.mono (Nat.le_add_right _ _)
theorem Step.inr {n m : Nat} {c : Co} {H H1 : Hp} (a : Step m c H H1) : Step (n + m) c H H1 := a.mono (Nat.le_add_left _ _)
theorem trn_same {a : Addr} {H H' : Hp} (h : H' a = H a) : trn a H' = trn a H := by unfold trn; rw [h]
theorem StInv.more {c : Co} {H H' : Hp} (h : StInv c H) (e : ∀ b o, H b = some o → H' b = some o) : StInv c H' := by
  obtain ⟨g, cl, l, t, h1, h2, h3, r1, r2, r3, r4, r5, r6⟩ := h
  exact ⟨g, cl, l, t, e _ _ h1, e _ _ h2, e _ _ h3, r1, r2, r3, r4, r5, r6.ext e⟩
theorem StInv.new {c : Co} {H : Hp} (h : StInv c H) {p : Addr} {o : HO} (hp : H p = none) : StInv c (upd H p o) := h.more fun b u e => by rw [upd_ne (ne_of_none e hp)]; exact e
theorem Run.free0 {c : Co} {H H' : Hp} (q : Run c H H') {p : Addr} (hp : H' p = none) : Fr H p := by
  intro o e t
  obtain ⟨⟨_, _, _, _, z1, z2, _⟩, k⟩ := q
  by_cases e1 : p = c.sd
  · rw [← e1, hp] at z1; cases z1
  · by_cases e2 : p = c.sg
    · rw [← e2, hp] at z2; cases z2
    · have := k p o e e1 e2 t
      rw [hp] at this; cases this
theorem Step.free0 {n : Nat} {c : Co} {H H' : Hp} (q : Step n c H H') {p : Addr} (hp : H' p = none) : Fr H p := q.run.free0 hp
theorem StInv.at {c : Co} {H : Hp} (h : StInv c H) : ∃ o, H c.sd = some o := let ⟨_, _, _, _, e, _⟩ := h; ⟨_, e⟩
theorem trn_new {c : Co} {H : Hp} (h : StInv c H) {p : Addr} {o : HO} (hp : H p = none) : trn c.sd (upd H p o) = trn c.sd H := by
  obtain ⟨u, e⟩ := h.at
  exact trn_same (upd_ne (ne_of_none e hp))
theorem Step.new {n : Nat} {c : Co} {H : Hp} (h : StInv c H) {p : Addr} {o : HO} (hp : H p = none) : Step n c H (upd H p o) :=
  ⟨h.new hp, fun b u e _ _ _ => by rw [upd_ne (ne_of_none e hp)]; exact e, by rw [trn_new h hp]; exact Nat.le_add_right _ _⟩
theorem StInv.co {c c' : Co} {H : Hp} (h : StInv c H) (h1 : c'.sd = c.sd) (h2 : c'.sg = c.sg) (h3 : c'.sl = c.sl) (h4 : c'.T = c.T) : StInv c' H := by
  unfold StInv at h ⊢
  rw [h1, h2, h3, h4]
  exact h
theorem StInv.odom {c : Co} {H H' : Hp} {O : Addr → Prop} (h : StInv c H') (d : ∀ b, O b → ∃ o, H b = some o ∧ nT o) (k : ∀ b o, H b = some o → b ≠ c.sd → b ≠ c.sg → nT o → H' b = some o) : ∀ b, O b → ∃ o, H' b = some o ∧ nT o := fun b hb => by
  obtain ⟨g, cl, l, t, e1, e2, _⟩ := h
  by_cases q1 : b = c.sd
  · exact ⟨_, q1 ▸ e1, nTK⟩
  · by_cases q2 : b = c.sg
    · exact ⟨_, q2 ▸ e2, nTL⟩
    · obtain ⟨o, e, t⟩ := d b hb
      exact ⟨o, k b o e q1 q2 t, t⟩
theorem Step.more {n : Nat} {c : Co} {H H' : Hp} (h : StInv c H) (e : ∀ b o, H b = some o → H' b = some o) : Step n c H H' := ⟨h.more e, fun b o q _ _ _ => e b o q, by
  obtain ⟨u, q⟩ := h.at
  rw [trn_same ((e _ _ q).trans q.symm)]
  exact Nat.le_add_right _ _⟩

/-! ### slots, an error told, the environment -/
/-- a slot: nothing known, plain data, or the def's own list or dict, which it may change -/
inductive Sl where
  | un | sh (d : D) | ol (ds : List D) | ok (kvs : List (Key × D)) | ot (kvs : List (List Key × D))
def Sl.own : Sl → Prop
  | .un => False
  | .sh _ => False
  | .ol _ => True
  | .ok _ => True
  | .ot _ => True
/-- an error: its class by name, its one field (or none) -/
structure Ex where
  cls : Str
  fs : List (Str × D)
structure Env where
  sl : List Sl
  ew : Ex → Prop
inductive KvAt (K : PySem.W.Frag) (c : Co) (H : Hp) {κ : Type} : List (κ × V) → List (κ × D) → Prop
  | nil : KvAt K c H [] []
  | cons {k : κ} {v : V} {d : D} {us : List (κ × V)} {kvs : List (κ × D)} : At K c H v d → KvAt K c H us kvs → KvAt K c H ((k, v) :: us) ((k, d) :: kvs)
theorem KvAt.evo {K : PySem.W.Frag} {c c' : Co} {H H' : Hp} {κ : Type} (e : Evo c H c' H') {us : List (κ × V)} {kvs : List (κ × D)} (h : KvAt K c H us kvs) : KvAt K c' H' us kvs := by
  induction h with
  | nil => exact .nil
  | cons a _ ih => exact .cons (a.evo e) ih
theorem KvAt.length {K : PySem.W.Frag} {c : Co} {H : Hp} {κ : Type} {us : List (κ × V)} {kvs : List (κ × D)} (h : KvAt K c H us kvs) : us.length = kvs.length := by
  induction h with
  | nil => rfl
  | cons a _ ih => rw [List.length_cons, List.length_cons, ih]
def ObAt (K : PySem.W.Frag) (c : Co) (H : Hp) (p : Addr) : Sl → Prop
  | .un => True
  | .sh _ => True
  | .ol ds => ∃ xs, H p = some (.lst xs) ∧ xs.length ≤ sizeLine ∧ AtL K c H xs ds
  | .ok kvs => ∃ us, H p = some (.dK us) ∧ us.length ≤ sizeLine ∧ KvAt K c H us kvs
  | .ot kvs => ∃ us, H p = some (.dT us) ∧ us.length ≤ sizeLine ∧ KvAt K c H us kvs
def SlAt (K : PySem.W.Frag) (c : Co) (H : Hp) (p : Addr) (x : Option (Option V)) (z : Sl) : Prop :=
  (z.own → x = some (some (.ref p)) ∧ ObAt K c H p z) ∧ ∀ d, z = .sh d → ∃ v, x = some (some v) ∧ At K c H v d
theorem ObAt.evo {K : PySem.W.Frag} {c c' : Co} {H H' : Hp} {p : Addr} {z : Sl} (e : Evo c H c' H') (k : ∀ o, H p = some o → nT o → H' p = some o) (h : ObAt K c H p z) : ObAt K c' H' p z := by
  cases z with
  | un => trivial
  | sh d => trivial
  | ol ds => obtain ⟨xs, e1, l, a⟩ := h; exact ⟨xs, k _ e1 nTL, l, a.evo e⟩
  | ok ds => obtain ⟨xs, e1, l, a⟩ := h; exact ⟨xs, k _ e1 nTK, l, a.evo e⟩
  | ot ds => obtain ⟨xs, e1, l, a⟩ := h; exact ⟨xs, k _ e1 nTD, l, a.evo e⟩
theorem ObAt.dom {K : PySem.W.Frag} {c : Co} {H : Hp} {p : Addr} {z : Sl} (h : ObAt K c H p z) (o : z.own) : ∃ u, H p = some u ∧ nT u := by
  cases z with
  | un => exact o.elim
  | sh d => exact o.elim
  | ol ds => exact ⟨_, h.choose_spec.1, nTL⟩
  | ok ds => exact ⟨_, h.choose_spec.1, nTK⟩
  | ot ds => exact ⟨_, h.choose_spec.1, nTD⟩
theorem SlAt.evo {K : PySem.W.Frag} {c c' : Co} {H H' : Hp} {p : Addr} {x : Option (Option V)} {z : Sl} (e : Evo c H c' H') (k : z.own → ∀ o, H p = some o → nT o → H' p = some o) (h : SlAt K c H p x z) : SlAt K c' H' p x z :=
  ⟨fun o => ⟨(h.1 o).1, (h.1 o).2.evo e (k o)⟩, fun d q => let ⟨v, e1, a⟩ := h.2 d q; ⟨v, e1, a.evo e⟩⟩
theorem SlAt.un {K : PySem.W.Frag} {c : Co} {H : Hp} {p : Addr} {x : Option (Option V)} : SlAt K c H p x .un := ⟨fun z => z.elim, fun _ z => nomatch z⟩
theorem SlAt.sh {K : PySem.W.Frag} {c : Co} {H : Hp} {p : Addr} {v : V} {d : D} (a : At K c H v d) : SlAt K c H p (some (some v)) (.sh d) := ⟨fun z => z.elim, fun _ z => by cases z; exact ⟨v, rfl, a⟩⟩
/-- what the def may want of errors, and the tables of code objects -/
structure EX where
  e : XK
  T : List (Addr × Str) := []
instance : CoeFun EX fun _ => XK := ⟨EX.e⟩
/-- an error's own dict, if it has a field -/
def ExAt (K : PySem.W.Frag) (c : Co) (H : Hp) (dd : Option Addr) : List (Str × D) → Prop
  | [] => dd = none
  | fs => ∃ d vs, dd = some d ∧ H d = some (.xd (((fs.map (·.1))).zip vs)) ∧ AtL K c H vs (fs.map (·.2))
/-- what the def may want of an error that leaves it -/
def ExW (K : PySem.W.Frag) (c : Co) (H0 : Hp) (B : Nat) (E : EX) (ew : Ex → Prop) : Prop :=
  ∀ x, ew x → ∀ dd H', Run c H0 H' → trn c.sd H' ≤ B → ExAt K c H' dd x.fs → E (.ref (clK K x.cls)) dd H'
structure Cf (K : PySem.W.Frag) (B : Nat) (c0 c : Co) (ad : Nat → Addr) (H0 : Hp) (E : EX) (s : L2.St) (H : Hp) (r : Env) : Prop where
  sd : c.sd = c0.sd
  sg : c.sg = c0.sg
  scl : c.sl = c0.sl
  sT : c.T = c0.T
  tT : c0.T = E.T
  le : ∀ b, c0.O b → c.O b
  st : Run c0 H0 H
  dom : ∀ b, c.O b → ∃ o, H b = some o ∧ nT o
  dom0 : ∀ b, c0.O b → ∃ o, H0 b = some o ∧ nT o
  osd : c.O c.sd
  osg : c.O c.sg
  own : ∀ i x, r.sl[i]? = some x → x.own → c.O (ad i) ∧ Fr H0 (ad i) ∧ ad i ≠ c.sd ∧ ad i ≠ c.sg ∧ ad i ≠ c.sl
  inj : ∀ i j x z, r.sl[i]? = some x → r.sl[j]? = some z → x.own → z.own → ad i = ad j → i = j
  sl : ∀ i x, r.sl[i]? = some x → SlAt K c H (ad i) (s[i]?) x
  len : s.length = r.sl.length
  ex : ExW K c0 H0 B E r.ew
  top : B ≤ most

section
variable {K : PySem.W.Frag} {B : Nat} {c0 c : Co} {ad : Nat → Addr} {H0 H H' : Hp} {E : EX} {s : L2.St} {r : Env}
theorem Cf.inv (h : Cf K B c0 c ad H0 E s H r) : StInv c H := h.st.1.co h.sd h.sg h.scl h.sT
theorem Step.evo {n : Nat} (hd : c.O c.sd) (hg : c.O c.sg) (q : Step n c H H') : Evo c H c H' :=
  ⟨rfl, fun b o e t n => ⟨q.2 b o e (fun z => n (z ▸ hd)) (fun z => n (z ▸ hg)) t, n⟩⟩
theorem Cf.evo {n : Nat} (h : Cf K B c0 c ad H0 E s H r) (q : Step n c H H') : Evo c H c H' := q.evo h.osd h.osg
theorem Cf.step {n : Nat} (h : Cf K B c0 c ad H0 E s H r) (q : Step n c H H') : Cf K B c0 c ad H0 E s H' r where
  sd := h.sd
  sg := h.sg
  scl := h.scl
  sT := h.sT
  tT := h.tT
  le := h.le
  st := ⟨q.1.co h.sd.symm h.sg.symm h.scl.symm h.sT.symm, fun b o e n m t => q.2 b o (h.st.2 b o e n m t) (by rw [h.sd]; exact n) (by rw [h.sg]; exact m) t⟩
  dom := q.1.odom h.dom q.2
  dom0 := h.dom0
  osd := h.osd
  osg := h.osg
  own := h.own
  inj := h.inj
  sl := fun i x e => (h.sl i x e).evo (h.evo q) fun o u z t => q.2 _ _ z (h.own i x e o).2.2.1 (h.own i x e o).2.2.2.1 t
  len := h.len
  ex := h.ex
  top := h.top
theorem Cf.freeF (h : Cf K B c0 c ad H0 E s H r) {p : Addr} (hp : Fr H p) : ¬ c.O p := fun z => by
  obtain ⟨o, e, t⟩ := h.dom p z
  exact hp o e t
theorem Cf.free (h : Cf K B c0 c ad H0 E s H r) {p : Addr} (hp : H p = none) : ¬ c.O p := h.freeF (.of hp)
end

/-! ### what is known of a def's text; where its body runs -/
structure G where
  P : Program
  w : World
  K : PySem.W.Frag
  mg : Str → Option Value
  base : Heap
  k : Nat
  N : List Str
  sc : Scope
  fn : Str → Bool
  rs : Bool
  T : List (Addr × Str) := []
  cq : Option (Value × Str) := none
  gd : Bool := false
structure Dyn where
  A : Around
  s0 : Shared
  H0 : Hp
  env : PySem.Env
  outer : List PySem.Env
  stack : List PySem.Env
  ex : List Addr
  pn : List (Addr × Obj)
  xe : Value → Shared → Prop
  E : EX
abbrev G.cx (g : G) (y : Dyn) : Cx := { prog := g.P, w := g.w, K := g.K, mg := g.mg, base := g.base, A := y.A, N := g.N, s_0 := y.s0, H_0 := y.H0, env := y.env, outer := y.outer, stack := y.stack, ex := y.ex, fn := g.fn, calm := true, pn := y.pn, xe := y.xe }
structure G.Ok (g : G) (y : Dyn) : Prop where
  sc : y.env.scope = g.sc
  room : Room g.k y.A
  nd : g.N.Nodup
  po : PassesOwn (model g.P g.w) y.A y.env y.xe
  tk : g.rs = true → Passes (L2.CX g.P g.w) (g.cx y) y.E.e ∧ L2.Takes (g.cx y) (fun cls d _ H => y.E cls d H)
  tb : y.E.T = g.T
  cq : ∀ z, g.cq = some z → y.env.code = z.1 ∧ y.env.qual = z.2
  gd : g.gd = true → y.A.guards = some []

/-! ### the meanings -/
structure WE where
  f : Env → (D → Prop) → Prop
  n : Nat
instance : CoeFun WE fun _ => Env → (D → Prop) → Prop := ⟨WE.f⟩
structure WT where
  f : Env → (Bool → Prop) → Prop
  n : Nat
instance : CoeFun WT fun _ => Env → (Bool → Prop) → Prop := ⟨WT.f⟩
structure WA where
  f : Env → (List D → Prop) → Prop
  n : Nat
instance : CoeFun WA fun _ => Env → (List D → Prop) → Prop := ⟨WA.f⟩
structure WEnds where
  nx : Env → Prop
  rt : D → Prop
  bk : Env → Prop := fun _ => False
  ct : Env → Prop := fun _ => False
structure WS where
  f : WEnds → Env → Prop
  n : Nat
instance : CoeFun WS fun _ => WEnds → Env → Prop := ⟨WS.f⟩
def SemE (K : PySem.W.Frag) (E : EX) (m : WE) (t : TE) : Prop := ∀ B c0 c ad H0 s H r R Q, Cf K B c0 c ad H0 E s H r → trn c.sd H + m.n ≤ B → m r R → (∀ d v H', R d → Step m.n c H H' → At K c H' v d → Q v H') → t s H Q
def SemT (K : PySem.W.Frag) (E : EX) (m : WT) (t : TT) : Prop := ∀ B c0 c ad H0 s H r R Q, Cf K B c0 c ad H0 E s H r → trn c.sd H + m.n ≤ B → m r R → (∀ b H', R b → Step m.n c H H' → Q b H') → t s H Q
def SemA (K : PySem.W.Frag) (E : EX) (n : Nat) (m : WA) (t : TA) : Prop := ∀ B c0 c ad H0 s H r R Q, Cf K B c0 c ad H0 E s H r → trn c.sd H + m.n ≤ B → m r R → (∀ ds vs H', R ds → ds.length = n → Step m.n c H H' → AtL K c H' vs ds → Q vs H') → t s H Q
/-- what is wanted behind a statement that begins with (c, H); at the end no more than T draws are mixed -/
structure EndsOk (K : PySem.W.Frag) (B : Nat) (c0 : Co) (H0 : Hp) (E : EX) (c : Co) (H : Hp) (T : Nat) (W : WEnds) (X : Ends) : Prop where
  nx : ∀ c' ad' s' H' r', Evo c H c' H' → trn c'.sd H' ≤ T → W.nx r' → Cf K B c0 c' ad' H0 E s' H' r' → X.nx s' H'
  bk : ∀ c' ad' s' H' r', Evo c H c' H' → trn c'.sd H' ≤ T → W.bk r' → Cf K B c0 c' ad' H0 E s' H' r' → X.bk s' H'
  ct : ∀ c' ad' s' H' r', Evo c H c' H' → trn c'.sd H' ≤ T → W.ct r' → Cf K B c0 c' ad' H0 E s' H' r' → X.ct s' H'
  rt : ∀ d v H', W.rt d → Run c0 H0 H' → trn c0.sd H' ≤ T → At K c0 H' v d → X.rt v H'
def SemS (K : PySem.W.Frag) (E : EX) (m : WS) (t : TS) : Prop := ∀ B c0 c ad H0 s H r W X, Cf K B c0 c ad H0 E s H r → trn c.sd H + m.n ≤ B → m W r → EndsOk K B c0 H0 E c H (trn c.sd H + m.n) W X → t X s H
theorem EndsOk.evo {K : PySem.W.Frag} {B : Nat} {c0 : Co} {H0 : Hp} {E : EX} {c c' : Co} {H H' : Hp} {T T' : Nat} {W : WEnds} {X : Ends} (h : EndsOk K B c0 H0 E c H T W X) (e : Evo c H c' H') (le : T' ≤ T) : EndsOk K B c0 H0 E c' H' T' W X :=
  ⟨fun c2 ad s H2 r q l => h.nx c2 ad s H2 r (e.trans q) (Nat.le_trans l le), fun c2 ad s H2 r q l => h.bk c2 ad s H2 r (e.trans q) (Nat.le_trans l le), fun c2 ad s H2 r q l => h.ct c2 ad s H2 r (e.trans q) (Nat.le_trans l le), fun d v H2 w q l => h.rt d v H2 w q (Nat.le_trans l le)⟩

def DE (g : G) (e : Expr) (m : WE) : Prop := ∃ t : EX → TE, ∀ y, g.Ok y → PE (g.cx y) e (t y.E) ∧ SemE g.K y.E m (t y.E)
def DT (g : G) (e : Expr) (m : WT) : Prop := ∃ t : EX → TT, ∀ y, g.Ok y → PT (g.cx y) e (t y.E) ∧ SemT g.K y.E m (t y.E)
def DW (g : G) (e : Expr) (m : WT) : Prop := ∃ t : EX → TT, ∀ y, g.Ok y → PW (g.cx y) e (t y.E) ∧ SemT g.K y.E m (t y.E)
def DA (g : G) (es : List Expr) (m : WA) : Prop := ∃ t : EX → TA, ∀ y, g.Ok y → PA (g.cx y) es (t y.E) ∧ SemA g.K y.E es.length m (t y.E)
def DSt (g : G) (st : Stmt) (m : WS) : Prop := ∃ t : EX → TS, ∀ y, g.Ok y → PS (g.cx y) st (t y.E) ∧ SemS g.K y.E m (t y.E)
def DSs (g : G) (st : List Stmt) (m : WS) : Prop := ∃ t : EX → TS, ∀ y, g.Ok y → PSs (g.cx y) st (t y.E) ∧ SemS g.K y.E m (t y.E)

/-! ### names and constants -/
theorem G.Ok.gl {g : G} {y : Dyn} (ok : g.Ok y) {x : Str} (h : g.sc.names.lookup x = some .globalImplicit) : Gl (g.cx y) x := by
  show y.env.scope.names.lookup x = some .globalImplicit
  rw [ok.sc]
  exact h
section
variable {g : G} {pos : Pos}
def eVar (i : Nat) : WE := ⟨fun r R => ∃ d, r.sl[i]? = some (.sh d) ∧ R d, 0⟩
def eC (d : D) : WE := ⟨fun _ R => R d, 0⟩
theorem de_var (i : Nat) {x : Str} (hN : g.N[i]? = some x := by rfl) (hv : g.sc.names.lookup x = some .local ∨ g.sc.names.lookup x = some .cell ∨ g.sc.names.lookup x = some .free := by first | exact Or.inl rfl | exact Or.inr (Or.inl rfl) | exact Or.inr (Or.inr rfl))
    (hd : (x == ("__debug__" : Str)) = false := by decide) (hcd : (x == ("__classdict__" : Str)) = false := by decide) : DE g (.Name x pos) (eVar i) := by
  refine ⟨fun _ => tVar i, fun y ok => ⟨pe_var (X := g.cx y) (i := i) hN (by unfold Vis; rw [ok.sc]; exact hv) hd hcd, ?_⟩⟩
  intro B c0 c ad H0 s H r R Q cf hb ⟨d, e, hR⟩ k
  obtain ⟨v, e1, a⟩ := (cf.sl i _ e).2 d rfl
  exact ⟨v, e1, k d v H hR (Step.refl cf.inv) a⟩
theorem sem_c {K : PySem.W.Frag} {E : EX} {d : D} {v : V} (h : ∀ c H, At K c H v d) : SemE K E (eC d) (tC v) :=
  fun B c0 c ad H0 s H r R Q cf hb hR k => k d v H hR (Step.refl cf.inv) (h c H)
theorem de_int {i j} : DE g (.Constant (.int i) j pos) (eC (.int i)) := ⟨fun _ => tC (.int i), fun y _ => ⟨pe_int, sem_c fun _ _ => .int i⟩⟩
theorem de_bl {b j} : DE g (.Constant (.bool b) j pos) (eC (.bl b)) := ⟨fun _ => tC (.bl b), fun y _ => ⟨pe_bl, sem_c fun _ _ => .bl b⟩⟩
theorem de_non {j} : DE g (.Constant .none j pos) (eC .non) := ⟨fun _ => tC .non, fun y _ => ⟨pe_non, sem_c fun _ _ => .non⟩⟩
theorem de_str {x j} (h : sokB x = true := by decide +kernel) : DE g (.Constant (.str x) j pos) (eC (.str x)) := ⟨fun _ => tC (.str x), fun y _ => ⟨pe_str, sem_c fun _ _ => .str x (sok_of h)⟩⟩
/-- a constant of the module's -/
structure Glob (K : PySem.W.Frag) (mg : Str → Option Value) (x : Str) (d : D) : Prop where
  ex : ∃ u v, mg x = some u ∧ RelV v u ∧ ∀ c H, At K c H v d
theorem de_glob {x : Str} {d : D} (hc : Glob g.K g.mg x d) (hg : g.sc.names.lookup x = some .globalImplicit := by rfl) (hd : (x == ("__debug__" : Str)) = false := by decide) : DE g (.Name x pos) (eC d) := by
  obtain ⟨u, v, hm, r, a⟩ := hc.ex
  exact ⟨fun _ => tC v, fun y ok => ⟨pe_glob (X := g.cx y) (v := v) (u := u) (ok.gl hg) hm r hd, sem_c a⟩⟩
end
end DS
/-! DS2: operators, calls, displays, tests. -/
namespace DS
open PySem PySem.Spec PyProof.Rows L2

/-- the heap as an operator sees it -/
structure Ho (c : Co) (H : Hp) : Prop where
  inv : StInv c H
  dom : ∀ b, c.O b → ∃ o, H b = some o ∧ nT o
  osd : c.O c.sd
  osg : c.O c.sg
theorem Cf.ho {K B c0 c ad H0 E s H r} (h : Cf K B c0 c ad H0 E s H r) : Ho c H := ⟨h.inv, h.dom, h.osd, h.osg⟩
theorem Ho.free {c : Co} {H : Hp} (h : Ho c H) {p : Addr} (hp : H p = none) : ¬ c.O p := fun z => by
  obtain ⟨o, e, _⟩ := h.dom p z
  rw [hp] at e
  cases e
theorem Ho.step {n : Nat} {c : Co} {H H' : Hp} (h : Ho c H) (q : Step n c H H') : Ho c H' := ⟨q.1, q.1.odom h.dom q.2, h.osd, h.osg⟩
theorem Ho.new {c : Co} {H : Hp} (h : Ho c H) {p : Addr} {o : HO} (hp : H p = none) {n : Nat} : Step n c H (upd H p o) := Step.new h.inv hp
theorem Ho.evo {n : Nat} {c : Co} {H H' : Hp} (h : Ho c H) (q : Step n c H H') : Evo c H c H' := q.evo h.osd h.osg
/-- a new tuple, a new list -/
theorem Ho.tup {K : PySem.W.Frag} {c : Co} {H : Hp} (h : Ho c H) {p : Addr} {xs : List V} {ds : List D} (hp : H p = none) (l : xs.length ≤ sizeLine) (a : AtL K c H xs ds) : At K c (upd H p (.tup xs)) (.ref p) (.tup ds) :=
  .tup (.inl ⟨.inl upd_same, h.free hp⟩) l (a.evo (h.evo (h.new (n := 0) hp)))
theorem Ho.lst {K : PySem.W.Frag} {c : Co} {H : Hp} (h : Ho c H) {p : Addr} {xs : List V} {ds : List D} (hp : H p = none) (l : xs.length ≤ sizeLine) (a : AtL K c H xs ds) : At K c (upd H p (.lst xs)) (.ref p) (.lst ds) :=
  .lst (.inl ⟨.inl upd_same, h.free hp⟩) l (a.evo (h.evo (h.new (n := 0) hp)))

/-! ### two-place operators by values -/
def SemO (K : PySem.W.Frag) (f : D → D → Option D) (r : R2) : Prop := ∀ c H v u x y z Q, Ho c H → At K c H v x → At K c H u y → f x y = some z → (∀ v' H', Step 0 c H H' → At K c H' v' z → Q v' H') → r v u H Q
def eOp (f : D → D → Option D) (a b : WE) : WE := ⟨fun r R => a r fun x => b r fun y => ∃ z, f x y = some z ∧ R z, a.n + b.n⟩
theorem sem_op {K : PySem.W.Frag} {E : EX} {f : D → D → Option D} {r : R2} {a b : WE} {ta tb : TE} (h : SemO K f r) (ha : SemE K E a ta) (hb : SemE K E b tb) : SemE K E (eOp f a b) (tOp r ta tb) := by
  intro B c0 c ad H0 s H rr R Q cf bd hm k
  refine ha B c0 c ad H0 s H rr _ _ cf (bd1 bd) hm fun x v H1 hx s1 a1 => ?_
  refine hb B c0 c ad H0 s H1 rr _ _ (cf.step s1) (bd2 bd s1.3) hx fun y u H2 hy s2 a2 => ?_
  obtain ⟨z, e, hR⟩ := hy
  have cf2 := (cf.step s1).step s2
  exact h c H2 v u x y z Q cf2.ho (a1.evo ((cf.step s1).evo s2)) a2 e fun v' H' s3 a3 => k z v' H' hR ((s1.trans s2).trans s3) a3
theorem de_op {g : G} {op : Operator} {f : D → D → Option D} {r : R2} {a b : Expr} {ma mb : WE} {pos : Pos} (ho : ∀ y, g.Ok y → OpR (g.cx y) (binaryOp op) r) (h : SemO g.K f r) (ha : DE g a ma) (hb : DE g b mb) : DE g (.BinOp a op b pos) (eOp f ma mb) := by
  obtain ⟨ta, pa⟩ := ha
  obtain ⟨tb, pb⟩ := hb
  exact ⟨fun E => tOp r (ta E) (tb E), fun y ok => ⟨pe_op (ho y ok) (pa y ok).1 (pb y ok).1, sem_op h (pa y ok).2 (pb y ok).2⟩⟩
theorem de_cmp {g : G} {op : CmpOp} {f : D → D → Option D} {r : R2} {a b : Expr} {ma mb : WE} {pos : Pos} (ho : ∀ y, g.Ok y → OpR (g.cx y) (compareOp op) r) (h : SemO g.K f r) (ha : DE g a ma) (hb : DE g b mb)
    (hm : behindInMarks op b = false := by first | exact nomark _ | rfl) : DE g (.Compare a [op] [b] pos) (eOp f ma mb) := by
  obtain ⟨ta, pa⟩ := ha
  obtain ⟨tb, pb⟩ := hb
  exact ⟨fun E => tOp r (ta E) (tb E), fun y ok => ⟨pe_cmpR (ho y ok) (pa y ok).1 (pb y ok).1 hm, sem_op h (pa y ok).2 (pb y ok).2⟩⟩
/-- a value that is a bool, as a test -/
def tV (m : WE) : WT := ⟨fun r R => m r fun d => ∃ b, d = .bl b ∧ R b, m.n⟩
theorem sem_test {K : PySem.W.Frag} {E : EX} {m : WE} {t : TE} (h : SemE K E m t) : SemT K E (tV m) (tTest t) := by
  intro B c0 c ad H0 s H rr R Q cf bd hm k
  refine h B c0 c ad H0 s H rr _ _ cf bd hm fun x v H1 hx s1 a1 => ?_
  obtain ⟨b, rfl, hR⟩ := hx
  cases a1
  exact ⟨b, rfl, k b H1 hR s1⟩
theorem sem_tB {K : PySem.W.Frag} {E : EX} {m : WE} {t : TE} (h : SemE K E m t) : SemT K E (tV m) (tB t) := sem_test h
theorem dt_cmp {g : G} {op : CmpOp} {f : D → D → Option D} {r : R2} {a b : Expr} {ma mb : WE} {pos : Pos} (ho : ∀ y, g.Ok y → OpR (g.cx y) (compareOp op) r) (h : SemO g.K f r) (ha : DE g a ma) (hb : DE g b mb)
    (hm : behindInMarks op b = false := by first | exact nomark _ | rfl) : DT g (.Compare a [op] [b] pos) (tV (eOp f ma mb)) := by
  obtain ⟨ta, pa⟩ := ha
  obtain ⟨tb, pb⟩ := hb
  exact ⟨fun E => tTest (tOp r (ta E) (tb E)), fun y ok => ⟨pt_cmpR (ho y ok) (pa y ok).1 (pb y ok).1 hm, sem_test (sem_op h (pa y ok).2 (pb y ok).2)⟩⟩
/-- a < b < c -/
def eCh (f f' : D → D → Option D) (a b c : WE) : WE := ⟨fun r R => a r fun x => b r fun y => ∃ k, f x y = some (.bl k) ∧ if k = true then c r fun w => ∃ z, f' y w = some z ∧ R z else R (.bl false), a.n + b.n + c.n⟩
theorem sem_ch {K : PySem.W.Frag} {E : EX} {f f' : D → D → Option D} {r r' : R2} {a b c : WE} {ta tb tc : TE} (h : SemO K f r) (h' : SemO K f' r') (ha : SemE K E a ta) (hb : SemE K E b tb) (hc : SemE K E c tc) :
    SemE K E (eCh f f' a b c) (tChain r r' ta tb tc) := by
  intro B c0 co ad H0 s H rr R Q cf bd hm k
  refine ha B c0 co ad H0 s H rr _ _ cf (bd1 (bd1 bd)) hm fun x v H1 hx s1 a1 => ?_
  have cf1 := cf.step s1
  refine hb B c0 co ad H0 s H1 rr _ _ cf1 (bd2 (bd1 bd) s1.3) hx fun y u H2 hy s2 a2 => ?_
  have cf2 := cf1.step s2
  obtain ⟨b, e, hR⟩ := hy
  refine h co H2 v u x y _ _ cf2.ho (a1.evo (cf1.evo s2)) a2 e fun v' H' s3 a3 => ?_
  cases a3
  have cf3 := cf2.step s3
  cases b with
  | true =>
    refine ⟨true, rfl, ?_⟩
    rw [if_pos rfl] at hR ⊢
    refine hc B c0 co ad H0 s H' rr _ _ cf3 (bd3 bd s1.3 (s2.trans s3).3) hR fun w q H4 hw s4 a4 => ?_
    obtain ⟨z, e4, hR⟩ := hw
    exact h' co H4 u q y w z Q (cf3.step s4).ho ((a2.evo (cf2.evo s3)).evo (cf3.evo s4)) a4 e4 fun v5 H5 s5 a5 => k z v5 H5 hR ((((s1.trans s2).trans s3).trans s4).trans s5) a5
  | false =>
    refine ⟨false, rfl, ?_⟩
    rw [if_neg Bool.false_ne_true] at hR ⊢
    exact k _ _ H' hR ((s1.trans s2).trans s3).inl (.bl false)
theorem de_ch {g : G} {op op' : CmpOp} {f f' : D → D → Option D} {r r' : R2} {a b c : Expr} {ma mb mc : WE} {pos : Pos} (ho : ∀ y, g.Ok y → OpR (g.cx y) (compareOp op) r) (h : SemO g.K f r) (ho' : ∀ y, g.Ok y → OpR (g.cx y) (compareOp op') r') (h' : SemO g.K f' r')
    (ha : DE g a ma) (hb : DE g b mb) (hc : DE g c mc) (hm : lastMarks [op, op'] [b, c] = false := by with_unfolding_all rfl) : DE g (.Compare a [op, op'] [b, c] pos) (eCh f f' ma mb mc) := by
  obtain ⟨ta, pa⟩ := ha
  obtain ⟨tb, pb⟩ := hb
  obtain ⟨tc, pc⟩ := hc
  exact ⟨fun E => tChain r r' (ta E) (tb E) (tc E), fun y ok => ⟨pe_chain (ho y ok) (ho' y ok) (pa y ok).1 (pb y ok).1 (pc y ok).1 hm, sem_ch h h' (pa y ok).2 (pb y ok).2 (pc y ok).2⟩⟩
theorem dt_ch {g : G} {op op' : CmpOp} {f f' : D → D → Option D} {r r' : R2} {a b c : Expr} {ma mb mc : WE} {pos : Pos} (ho : ∀ y, g.Ok y → OpR (g.cx y) (compareOp op) r) (h : SemO g.K f r) (ho' : ∀ y, g.Ok y → OpR (g.cx y) (compareOp op') r') (h' : SemO g.K f' r')
    (ha : DE g a ma) (hb : DE g b mb) (hc : DE g c mc) (hm : lastMarks [op, op'] [b, c] = false := by with_unfolding_all rfl) : DT g (.Compare a [op, op'] [b, c] pos) (tV (eCh f f' ma mb mc)) := by
  obtain ⟨ta, pa⟩ := ha
  obtain ⟨tb, pb⟩ := hb
  obtain ⟨tc, pc⟩ := hc
  exact ⟨fun E => tTest (tChain r r' (ta E) (tb E) (tc E)), fun y ok => ⟨pt_chain (ho y ok) (ho' y ok) (pa y ok).1 (pb y ok).1 (pc y ok).1 hm, sem_test (sem_ch h h' (pa y ok).2 (pb y ok).2 (pc y ok).2)⟩⟩

/-! ### tests, and, or, not, if-expressions -/
theorem dt_val {g : G} {e : Expr} {m : WE} (h : DE g e m) (he : ∀ env whole, isTrue e env whole = (do let v ← whole; standAt e.pos; holding [v] (truthy v)) := by intro _ _; rfl) : DT g e (tV m) := by
  obtain ⟨t, p⟩ := h
  exact ⟨fun E => tB (t E), fun y ok => ⟨pt_val (p y ok).1 (he _), sem_tB (p y ok).2⟩⟩
def cAnd (a b : WT) : WT := ⟨fun r R => a r fun x => if x = true then b r R else R false, a.n + b.n⟩
def cOr (a b : WT) : WT := ⟨fun r R => a r fun x => if x = true then R true else b r R, a.n + b.n⟩
def cNot (a : WT) : WT := ⟨fun r R => a r fun x => R (!x), a.n⟩
section
variable {K : PySem.W.Frag} {E : EX}
theorem sem_cAnd {a b : WT} {ta tb : TT} (ha : SemT K E a ta) (hb : SemT K E b tb) : SemT K E (cAnd a b) (tAnd ta tb) := by
  intro B c0 c ad H0 s H rr R Q cf bd hm k
  refine ha B c0 c ad H0 s H rr _ _ cf (bd1 bd) hm fun x H1 hx s1 => ?_
  cases x with
  | true =>
    rw [if_pos rfl] at hx ⊢
    exact hb B c0 c ad H0 s H1 rr _ _ (cf.step s1) (bd2 bd s1.3) hx fun x2 H2 hx2 s2 => k x2 H2 hx2 (s1.trans s2)
  | false =>
    rw [if_neg Bool.false_ne_true] at hx ⊢
    exact k false H1 hx s1.inl
theorem sem_cOr {a b : WT} {ta tb : TT} (ha : SemT K E a ta) (hb : SemT K E b tb) : SemT K E (cOr a b) (tOr ta tb) := by
  intro B c0 c ad H0 s H rr R Q cf bd hm k
  refine ha B c0 c ad H0 s H rr _ _ cf (bd1 bd) hm fun x H1 hx s1 => ?_
  cases x with
  | true =>
    rw [if_pos rfl] at hx ⊢
    exact k true H1 hx s1.inl
  | false =>
    rw [if_neg Bool.false_ne_true] at hx ⊢
    exact hb B c0 c ad H0 s H1 rr _ _ (cf.step s1) (bd2 bd s1.3) hx fun x2 H2 hx2 s2 => k x2 H2 hx2 (s1.trans s2)
theorem sem_cNot {a : WT} {ta : TT} (ha : SemT K E a ta) : SemT K E (cNot a) (tNot ta) := by
  intro B c0 c ad H0 s H rr R Q cf bd hm k
  exact ha B c0 c ad H0 s H rr _ _ cf bd hm fun x H1 hx s1 => k (!x) H1 hx s1
end
section
variable {g : G} {a b : Expr} {rest : List Expr} {ma mb : WT} {pos : Pos}
theorem dw_and1 (h : DT g a ma) : DW g (.BoolOp .And [a] pos) ma := let ⟨t, p⟩ := h; ⟨t, fun y ok => ⟨pw_and1 (p y ok).1, (p y ok).2⟩⟩
theorem dw_or1 (h : DT g a ma) : DW g (.BoolOp .Or [a] pos) ma := let ⟨t, p⟩ := h; ⟨t, fun y ok => ⟨pw_or1 (p y ok).1, (p y ok).2⟩⟩
theorem dw_and (h : DT g a ma) (h2 : DW g (.BoolOp .And (b :: rest) pos) mb) : DW g (.BoolOp .And (a :: b :: rest) pos) (cAnd ma mb) :=
  let ⟨t, p⟩ := h; let ⟨t2, p2⟩ := h2; ⟨fun E => tAnd (t E) (t2 E), fun y ok => ⟨pw_and (p y ok).1 (p2 y ok).1, sem_cAnd (p y ok).2 (p2 y ok).2⟩⟩
theorem dw_or (h : DT g a ma) (h2 : DW g (.BoolOp .Or (b :: rest) pos) mb) : DW g (.BoolOp .Or (a :: b :: rest) pos) (cOr ma mb) :=
  let ⟨t, p⟩ := h; let ⟨t2, p2⟩ := h2; ⟨fun E => tOr (t E) (t2 E), fun y ok => ⟨pw_or (p y ok).1 (p2 y ok).1, sem_cOr (p y ok).2 (p2 y ok).2⟩⟩
theorem dt_w {e : Expr} (h : DW g e ma) : DT g e ma := let ⟨t, p⟩ := h; ⟨t, fun y ok => ⟨(p y ok).1.pt, (p y ok).2⟩⟩
theorem dt_not (h : DT g a ma) : DT g (.UnaryOp .Not a pos) (cNot ma) := let ⟨t, p⟩ := h; ⟨fun E => tNot (t E), fun y ok => ⟨pt_not (p y ok).1, sem_cNot (p y ok).2⟩⟩
end
/-- .. as values: all but the last are bools -/
def eAnd (a b : WE) : WE := ⟨fun r R => a r fun x => ∃ k, x = .bl k ∧ if k = true then b r R else R (.bl false), a.n + b.n⟩
def eOr (a b : WE) : WE := ⟨fun r R => a r fun x => ∃ k, x = .bl k ∧ if k = true then R (.bl true) else b r R, a.n + b.n⟩
def eNot (a : WE) : WE := ⟨fun r R => a r fun x => ∃ k, x = .bl k ∧ R (.bl (!k)), a.n⟩
def eIf (c : WT) (a b : WE) : WE := ⟨fun r R => c r fun k => if k = true then a r R else b r R, c.n + (a.n + b.n)⟩
section
variable {K : PySem.W.Frag} {E : EX}
theorem sem_eAnd {a b : WE} {ta tb : TE} (ha : SemE K E a ta) (hb : SemE K E b tb) : SemE K E (eAnd a b) (tAndV ta tb) := by
  intro B c0 c ad H0 s H rr R Q cf bd hm k
  refine ha B c0 c ad H0 s H rr _ _ cf (bd1 bd) hm fun x v H1 hx s1 a1 => ?_
  obtain ⟨b', rfl, hx⟩ := hx
  cases a1
  refine ⟨b', rfl, ?_⟩
  cases b' with
  | true =>
    rw [if_pos rfl] at hx ⊢
    exact hb B c0 c ad H0 s H1 rr _ _ (cf.step s1) (bd2 bd s1.3) hx fun x2 v2 H2 hx2 s2 a2 => k x2 v2 H2 hx2 (s1.trans s2) a2
  | false =>
    rw [if_neg Bool.false_ne_true] at hx ⊢
    exact k _ _ H1 hx s1.inl (.bl false)
theorem sem_eOr {a b : WE} {ta tb : TE} (ha : SemE K E a ta) (hb : SemE K E b tb) : SemE K E (eOr a b) (tOrV ta tb) := by
  intro B c0 c ad H0 s H rr R Q cf bd hm k
  refine ha B c0 c ad H0 s H rr _ _ cf (bd1 bd) hm fun x v H1 hx s1 a1 => ?_
  obtain ⟨b', rfl, hx⟩ := hx
  cases a1
  refine ⟨b', rfl, ?_⟩
  cases b' with
  | true =>
    rw [if_pos rfl] at hx ⊢
    exact k _ _ H1 hx s1.inl (.bl true)
  | false =>
    rw [if_neg Bool.false_ne_true] at hx ⊢
    exact hb B c0 c ad H0 s H1 rr _ _ (cf.step s1) (bd2 bd s1.3) hx fun x2 v2 H2 hx2 s2 a2 => k x2 v2 H2 hx2 (s1.trans s2) a2
theorem sem_eNot {a : WE} {ta : TE} (ha : SemE K E a ta) : SemE K E (eNot a) (tNotV ta) := by
  intro B c0 c ad H0 s H rr R Q cf bd hm k
  refine ha B c0 c ad H0 s H rr _ _ cf bd hm fun x v H1 hx s1 a1 => ?_
  obtain ⟨b', rfl, hx⟩ := hx
  cases a1
  exact ⟨b', rfl, k _ _ H1 hx s1 (.bl _)⟩
theorem sem_eIf {t : WT} {a b : WE} {tt : TT} {ta tb : TE} (ht : SemT K E t tt) (ha : SemE K E a ta) (hb : SemE K E b tb) : SemE K E (eIf t a b) (tIf tt ta tb) := by
  intro B c0 c ad H0 s H rr R Q cf bd hm k
  refine ht B c0 c ad H0 s H rr _ _ cf (bd1 bd) hm fun x H1 hx s1 => ?_
  cases x with
  | true =>
    rw [if_pos rfl] at hx ⊢
    exact ha B c0 c ad H0 s H1 rr _ _ (cf.step s1) (bd1 (bd2 bd s1.3)) hx fun x2 v2 H2 hx2 s2 a2 => k x2 v2 H2 hx2 (s1.trans s2.inl) a2
  | false =>
    rw [if_neg Bool.false_ne_true] at hx ⊢
    exact hb B c0 c ad H0 s H1 rr _ _ (cf.step s1) (bdR (bd2 bd s1.3)) hx fun x2 v2 H2 hx2 s2 a2 => k x2 v2 H2 hx2 (s1.trans s2.inr) a2
end
section
variable {g : G} {a b : Expr} {rest : List Expr} {ma mb : WE} {pos : Pos}
theorem de_one {op} (h : DE g a ma) : DE g (.BoolOp op [a] pos) ma := let ⟨t, p⟩ := h; ⟨t, fun y ok => ⟨pe_one (p y ok).1, (p y ok).2⟩⟩
theorem de_and (h : DE g a ma) (h2 : DE g (.BoolOp .And (b :: rest) pos) mb) : DE g (.BoolOp .And (a :: b :: rest) pos) (eAnd ma mb) :=
  let ⟨t, p⟩ := h; let ⟨t2, p2⟩ := h2; ⟨fun E => tAndV (t E) (t2 E), fun y ok => ⟨pe_and (p y ok).1 (p2 y ok).1, sem_eAnd (p y ok).2 (p2 y ok).2⟩⟩
theorem de_or (h : DE g a ma) (h2 : DE g (.BoolOp .Or (b :: rest) pos) mb) : DE g (.BoolOp .Or (a :: b :: rest) pos) (eOr ma mb) :=
  let ⟨t, p⟩ := h; let ⟨t2, p2⟩ := h2; ⟨fun E => tOrV (t E) (t2 E), fun y ok => ⟨pe_or (p y ok).1 (p2 y ok).1, sem_eOr (p y ok).2 (p2 y ok).2⟩⟩
theorem de_not (h : DE g a ma) : DE g (.UnaryOp .Not a pos) (eNot ma) := let ⟨t, p⟩ := h; ⟨fun E => tNotV (t E), fun y ok => ⟨pe_not (p y ok).1, sem_eNot (p y ok).2⟩⟩
theorem de_if {c : Expr} {mc : WT} (hc : DT g c mc) (h : DE g a ma) (h2 : DE g b mb) : DE g (.IfExp c a b pos) (eIf mc ma mb) :=
  let ⟨tc, pc⟩ := hc; let ⟨t, p⟩ := h; let ⟨t2, p2⟩ := h2; ⟨fun E => tIf (tc E) (t E) (t2 E), fun y ok => ⟨pe_ifExp (pc y ok).1 (p y ok).1 (p2 y ok).1, sem_eIf (pc y ok).2 (p y ok).2 (p2 y ok).2⟩⟩
end

/-! ### arguments, displays -/
def aNil : WA := ⟨fun _ R => R [], 0⟩
def aCons (a : WE) (b : WA) : WA := ⟨fun r R => a r fun x => b r fun xs => R (x :: xs), a.n + b.n⟩
theorem sem_nil {K : PySem.W.Frag} {E : EX} : SemA K E 0 aNil tNil := fun B c0 c ad H0 s H r R Q cf bd hR k => k [] [] H hR rfl (Step.refl cf.inv) .nil
theorem sem_cons {K : PySem.W.Frag} {E : EX} {a : WE} {b : WA} {ta : TE} {tb : TA} {n : Nat} (ha : SemE K E a ta) (hb : SemA K E n b tb) : SemA K E (n + 1) (aCons a b) (tCons ta tb) := by
  intro B c0 c ad H0 s H rr R Q cf bd hm k
  refine ha B c0 c ad H0 s H rr _ _ cf (bd1 bd) hm fun x v H1 hx s1 a1 => ?_
  have cf1 := cf.step s1
  exact hb B c0 c ad H0 s H1 rr _ _ cf1 (bd2 bd s1.3) hx fun xs vs H2 hx2 hn s2 a2 => k (x :: xs) (v :: vs) H2 hx2 (by rw [List.length_cons, hn]) (s1.trans s2) (.cons (a1.evo (cf1.evo s2)) a2)
section
variable {g : G} {e : Expr} {es : List Expr} {m : WE} {ma : WA} {pos : Pos}
theorem da_nil : DA g [] aNil := ⟨fun _ => tNil, fun _ _ => ⟨pa_nil, sem_nil⟩⟩
theorem da_cons (h : DE g e m) (h2 : DA g es ma) (hs : ∀ env, starEach (e :: es) env = (false, eval e env) :: starEach es env := by intro _; rfl) : DA g (e :: es) (aCons m ma) :=
  let ⟨t, p⟩ := h; let ⟨t2, p2⟩ := h2; ⟨fun E => tCons (t E) (t2 E), fun y ok => ⟨pa_cons (p y ok).1 (p2 y ok).1 (hs _), sem_cons (p y ok).2 (p2 y ok).2⟩⟩
def eTup (a : WA) : WE := ⟨fun r R => a r fun ds => ds.length ≤ sizeLine ∧ R (.tup ds), a.n⟩
def eLst (a : WA) : WE := ⟨fun r R => a r fun ds => ds.length ≤ sizeLine ∧ R (.lst ds), a.n⟩
theorem de_tup {x1} (h : DA g es ma) : DE g (.Tuple es x1 pos) (eTup ma) := by
  obtain ⟨t, p⟩ := h
  refine ⟨fun E => tTup (t E), fun y ok => ⟨pe_tup (p y ok).1, ?_⟩⟩
  intro B c0 c ad H0 s H rr R Q cf bd hm k
  refine (p y ok).2 B c0 c ad H0 s H rr _ _ cf bd hm fun ds vs H1 hx _ s1 a1 => ?_
  have l : vs.length ≤ sizeLine := by rw [a1.length]; exact hx.1
  have ho := (cf.step s1).ho
  exact ⟨l, fun q hq => k _ _ _ hx.2 (s1.trans (ho.new (n := 0) hq)) (ho.tup hq l a1)⟩
theorem de_lst (h : DA g es ma) : DE g (.List es pos) (eLst ma) := by
  obtain ⟨t, p⟩ := h
  refine ⟨fun E => tLst (t E), fun y ok => ⟨pe_lst (p y ok).1, ?_⟩⟩
  intro B c0 c ad H0 s H rr R Q cf bd hm k
  refine (p y ok).2 B c0 c ad H0 s H rr _ _ cf bd hm fun ds vs H1 hx _ s1 a1 => ?_
  have l : vs.length ≤ sizeLine := by rw [a1.length]; exact hx.1
  have ho := (cf.step s1).ho
  exact ⟨l, fun q hq => k _ _ _ hx.2 (s1.trans (ho.new (n := 0) hq)) (ho.lst hq l a1)⟩
theorem de_dic0 : DE g (.Dict [] [] pos) (eC (.dic [] [])) := by
  refine ⟨fun E => tDNewK, fun y ok => ⟨pe_dnewK, ?_⟩⟩
  intro B c0 c ad H0 s H rr R Q cf bd hm k
  exact fun q hq => k _ _ _ hm (cf.ho.new hq) (At.dic (kvs := []) ⟨.inl upd_same, cf.free hq⟩ (by decide) .nil)
end

/-! ### built-in functions and classes by their names -/
def SemC (K : PySem.W.Frag) (f : List D → Option D) (r : List V → Hp → VK → Prop) : Prop := ∀ c H vs ds z Q, Ho c H → AtL K c H vs ds → f ds = some z → (∀ v' H', Step 0 c H H' → At K c H' v' z → Q v' H') → r vs H Q
def eCB (f : List D → Option D) (a : WA) : WE := ⟨fun r R => a r fun ds => ∃ z, f ds = some z ∧ R z, a.n⟩
theorem sem_cb {K : PySem.W.Frag} {E : EX} {f : List D → Option D} {r : List V → Hp → VK → Prop} {a : WA} {ta : TA} {n : Nat} (h : SemC K f r) (ha : SemA K E n a ta) : SemE K E (eCB f a) (tCB r ta) := by
  intro B c0 c ad H0 s H rr R Q cf bd hm k
  refine ha B c0 c ad H0 s H rr _ _ cf bd hm fun ds vs H1 hx _ s1 a1 => ?_
  obtain ⟨z, e, hR⟩ := hx
  exact h c H1 vs ds z Q (cf.step s1).ho a1 e fun v' H' s2 a2 => k z v' H' hR (s1.trans s2) a2
section
variable {g : G} {e : Expr} {es : List Expr} {ma : WA} {x : Str} {p pos : Pos} {f : List D → Option D} {r : List V → Hp → VK → Prop}
theorem de_cb {id : String} (hc : ∀ y, g.Ok y → CallR (g.cx y) (.builtin id) r) (h : SemC g.K f r) (hm : g.mg x = none) (ha : DA g (e :: es) ma) (hv : bootBuiltins x = some (.builtin id) := by decide +kernel) (hg : g.sc.names.lookup x = some .globalImplicit := by rfl)
    (hn : x ≠ "__name__" := by decide) (hd : (x == ("__debug__" : Str)) = false := by decide) (he : ∀ env, starEach (e :: es) env = (false, eval e env) :: starEach es env := by intro _; rfl)
    (hpl : ∀ env, (backTo pos (starEach es env)).any (·.1) = false := by intro _; rfl) : DE g (.Call (.Name x p) (e :: es) [] pos) (eCB f ma) := by
  obtain ⟨t, q⟩ := ha
  exact ⟨fun E => tCB r (t E), fun y ok => ⟨pe_callB (hc y ok) (ok.gl hg) hm hv (q y ok).1 hn hd (he _) (hpl _), sem_cb h (q y ok).2⟩⟩
theorem de_ct {T : String} (hc : ∀ y, g.Ok y → CallR (g.cx y) (.type T) r) (h : SemC g.K f r) (hm : g.mg x = none) (ha : DA g (e :: es) ma) (hv : bootBuiltins x = some (.type T) := by decide +kernel) (hg : g.sc.names.lookup x = some .globalImplicit := by rfl)
    (hn : x ≠ "__name__" := by decide) (hd : (x == ("__debug__" : Str)) = false := by decide) (he : ∀ env, starEach (e :: es) env = (false, eval e env) :: starEach es env := by intro _; rfl)
    (hpl : ∀ env, (backTo pos (starEach es env)).any (·.1) = false := by intro _; rfl) : DE g (.Call (.Name x p) (e :: es) [] pos) (eCB f ma) := by
  obtain ⟨t, q⟩ := ha
  exact ⟨fun E => tCB r (t E), fun y ok => ⟨pe_callTy (hc y ok) (ok.gl hg) hm hv (q y ok).1 hn hd (he _) (hpl _), sem_cb h (q y ok).2⟩⟩
end
end DS
/-! DS3: defs and their calls, statements, what is walked, for, comprehensions. -/
namespace DS
open PySem PySem.Spec PyProof.Rows L2

/-! ### what a def promises -/
/-- a def's meaning, and how many draws it makes at most -/
structure WFn where
  f : List D → (D → Prop) → Prop
  n : Nat
instance : CoeFun WFn fun _ => List D → (D → Prop) → Prop := ⟨WFn.f⟩
def spW (K : PySem.W.Frag) (n : Nat) (F : WFn) (T : List (Addr × Str) := []) : Sp := fun vs H Q _ => ∃ c ds R, Ho c H ∧ AtL K c H vs ds ∧ ds.length = n ∧ (trn c.sd H + F.n ≤ most ∧ c.T = T) ∧ F ds R ∧ ∀ d v H', R d → Step F.n c H H' → At K c H' v d → Q v H'
structure FnW (P : Program) (w : World) (K : PySem.W.Frag) (mg : Str → Option Value) (base : Heap) (k : Nat) (x : Str) (n : Nat) (F : WFn) (T : List (Addr × Str) := []) : Prop where
  ex : ∃ f fd ps, ps.length = n ∧ FnOk P w K mg base L2.CX0 k f fd ps (spW K n F T) ∧ mg x = some (.ref f) ∧ PySem.W.keepIn K (.ref f) = true ∧ Binds K fd ps []
theorem FnW.mono {P : Program} {w : World} {K : PySem.W.Frag} {mg : Str → Option Value} {base : Heap} {j k : Nat} {x : Str} {n : Nat} {F : WFn} {T : List (Addr × Str)} (h : FnW P w K mg base j x n F T) (hj : j ≤ k) : FnW P w K mg base k x n F T := by
  obtain ⟨f, fd, ps, l, F1, r⟩ := h.ex
  exact ⟨⟨f, fd, ps, l, F1.mono hj, r⟩⟩
/-- a def's meaning may be told otherwise -/
theorem FnW.imp {P : Program} {w : World} {K : PySem.W.Frag} {mg : Str → Option Value} {base : Heap} {k : Nat} {x : Str} {n : Nat} {F F' : WFn} {T : List (Addr × Str)} (h : FnW P w K mg base k x n F T) (hn : F.n ≤ F'.n) (hi : ∀ ds R, ds.length = n → F' ds R → F ds R) : FnW P w K mg base k x n F' T := by
  obtain ⟨f, fd, ps, l, F1, r⟩ := h.ex
  refine ⟨⟨f, fd, ps, l, F1.imp fun vs H Q E ⟨c, ds, R, h1, h2, h3, hb, h4, h5⟩ => ⟨c, ds, R, h1, h2, h3, ⟨by have := hb.1; omega, hb.2⟩, hi ds R h3 h4, fun d v H' q st => h5 d v H' q (st.mono hn)⟩, r⟩⟩
def eCall (F : WFn) (a : WA) : WE := ⟨fun r R => a r fun ds => F ds R, a.n + F.n⟩
theorem sem_call {K : PySem.W.Frag} {E : EX} {n : Nat} {F : WFn} {a : WA} {ta : TA} {X : XK} {T : List (Addr × Str)} (hT : E.T = T) (ha : SemA K E n a ta) : SemE K E (eCall F a) (tCall (spW K n F T) [] X ta) := by
  intro B c0 c ad H0 s H rr R Q cf bd hm k
  refine ha B c0 c ad H0 s H rr _ _ cf (bd1 bd) hm fun ds vs H1 hx hn s1 a1 => ?_
  have cf1 := cf.step s1
  show spW K n F T (vs ++ []) H1 Q X
  rw [List.append_nil]
  exact ⟨c, ds, R, cf1.ho, a1, hn, ⟨Nat.le_trans (bd2 bd s1.3) cf.top, cf.sT.trans (cf.tT.trans hT)⟩, hx, fun d v H' hR s2 a2 => k d v H' hR (s1.trans s2) a2⟩
section
variable {g : G} {x : Str} {j : Nat} {F : WFn} {e : Expr} {es : List Expr} {ma : WA} {p pos : Pos}
theorem de_call (hf : FnW g.P g.w g.K g.mg g.base j x (e :: es).length F g.T) (ha : DA g (e :: es) ma) (hj : j ≤ g.k := by exact Nat.le_of_ble_eq_true rfl) (hg : g.sc.names.lookup x = some .globalImplicit := by rfl)
    (hd : (x == ("__debug__" : Str)) = false := by decide) (he : ∀ env, starEach (e :: es) env = (false, eval e env) :: starEach es env := by intro _; rfl)
    (hpl : ∀ env, (backTo pos (starEach es env)).any (·.1) = false := by intro _; rfl) : DE g (.Call (.Name x p) (e :: es) [] pos) (eCall F ma) := by
  obtain ⟨t, q⟩ := ha
  obtain ⟨f, fd, ps, l, F1, hm, hk, hb⟩ := hf.ex
  exact ⟨fun E => tCall (spW g.K (e :: es).length F g.T) [] L2.E0 (t E), fun y ok => ⟨pe_call (X := g.cx y) F1 (ok.room.mono hj) (ok.gl hg) hm hk hb .nil L2.pass0 (q y ok).1 hd (he _) (hpl _), sem_call ok.tb (q y ok).2⟩⟩
theorem de_call0 (hf : FnW g.P g.w g.K g.mg g.base j x 0 F g.T) (hj : j ≤ g.k := by exact Nat.le_of_ble_eq_true rfl) (hg : g.sc.names.lookup x = some .globalImplicit := by rfl)
    (hd : (x == ("__debug__" : Str)) = false := by decide) : DE g (.Call (.Name x p) [] [] pos) (eCall F aNil) := by
  obtain ⟨f, fd, ps, l, F1, hm, hk, hb⟩ := hf.ex
  exact ⟨fun E => tCall (spW g.K 0 F g.T) [] L2.E0 tNil, fun y ok => ⟨pe_call0 (X := g.cx y) F1 (ok.room.mono hj) (ok.gl hg) hm hk hb .nil L2.pass0 hd, sem_call ok.tb sem_nil⟩⟩
end

/-! ### a def's body -/
def startE (N : List Str) (ds : List D) : List Sl := ds.map .sh ++ List.replicate (N.length - ds.length) .un
def fnF (N : List Str) (m : WS) : WFn := ⟨fun ds R => m { nx := fun _ => R .non, rt := R } ⟨startE N ds, fun _ => False⟩, m.n⟩
theorem start_cf {K : PySem.W.Frag} {c : Co} {H : Hp} {E : EX} {N : List Str} {vs : List V} {ds : List D} {ew : Ex → Prop} (h : Ho c H) (hT : c.T = E.T) (a : AtL K c H vs ds) (hl : ds.length ≤ N.length) {B : Nat} (hB : B ≤ most) (hx : ExW K c H B E ew) :
    Cf K B c c (fun _ => 0) H E (start N vs) H ⟨startE N ds, ew⟩ where
  sd := rfl
  sg := rfl
  scl := rfl
  sT := rfl
  tT := hT
  le := fun _ h => h
  st := Run.refl h.inv
  dom := h.dom
  dom0 := h.dom
  osd := h.osd
  osg := h.osg
  own := fun i x e o => by
    exfalso
    have e : (ds.map Sl.sh ++ List.replicate (N.length - ds.length) Sl.un)[i]? = some x := e
    have hm := List.mem_of_getElem? e
    rw [List.mem_append, List.mem_map, List.mem_replicate] at hm
    rcases hm with ⟨d, _, rfl⟩ | ⟨_, rfl⟩
    · exact o.elim
    · exact o.elim
  inj := fun i j x z e _ o => by
    exfalso
    have e : (ds.map Sl.sh ++ List.replicate (N.length - ds.length) Sl.un)[i]? = some x := e
    have hm := List.mem_of_getElem? e
    rw [List.mem_append, List.mem_map, List.mem_replicate] at hm
    rcases hm with ⟨d, _, rfl⟩ | ⟨_, rfl⟩
    · exact o.elim
    · exact o.elim
  sl := fun i x e => by
    have e : (ds.map Sl.sh ++ List.replicate (N.length - ds.length) Sl.un)[i]? = some x := e
    by_cases hi : i < ds.length
    · rw [List.getElem?_append_left (by simpa using hi), List.getElem?_map, List.getElem?_eq_getElem hi] at e
      cases e
      obtain ⟨v, e1, a1⟩ := a.some_of (List.getElem?_eq_getElem hi)
      have hv : i < vs.length := by rw [a.length]; exact hi
      have e2 : (start N vs)[i]? = some (some v) := by
        show (vs.map some ++ _)[i]? = _
        rw [List.getElem?_append_left (by simpa using hv), List.getElem?_map, e1]
        rfl
      rw [e2]
      exact .sh a1
    · rw [List.getElem?_append_right (by simpa using hi)] at e
      have hm := List.mem_of_getElem? e
      rw [List.mem_replicate] at hm
      rw [hm.2]
      exact .un
  len := by
    show (vs.map some ++ List.replicate (N.length - vs.length) none).length = (ds.map Sl.sh ++ List.replicate (N.length - ds.length) Sl.un).length
    simp [a.length]
  ex := hx
  top := hB
def gOf (P : Program) (w : World) (K : PySem.W.Frag) (mg : Str → Option Value) (base : Heap) (k : Nat) (N : List Str) (st : Stmt) (rs : Bool) (T : List (Addr × Str) := []) : G := { P := P, w := w, K := K, mg := mg, base := base, k := k, N := N, sc := defScope st, fn := fun _ => true, rs := rs, T := T }
theorem fn_ok {P : Program} {w : World} {K : PySem.W.Frag} {mg : Str → Option Value} {base : Heap} {k : Nat} {x : Str} {st : Stmt} {f : Addr} {fd : FuncData} {N ps : List Str} {m : WS} {TB : List (Addr × Str)} (F : L2.Fun K x x st f fd) (S : FnScope N ps (defScope st)) (hp : ps.length ≤ N.length)
    (hb : DSs (gOf P w K mg base k N st false TB) (defBody st) m) : FnOk P w K mg base L2.CX0 (k + 1) f fd ps (spW K ps.length (fnF N m) TB) := by
  obtain ⟨t, p⟩ := hb
  refine F.ok S (fun vs H Q E ⟨c, ds, R, _, a, l, _⟩ => a.length.trans l) (fun cdv A outer s H vs Q E hr h => ?_)
  obtain ⟨c, ds, R, ho, a, l, bd, hF, k⟩ := h
  have ok : (gOf P w K mg base _ N st false TB).Ok { A := A.deeper (envOfC x (defScope st) s.heap.objs.size f cdv), s0 := s, H0 := H, env := envOfC x (defScope st) s.heap.objs.size f cdv, outer := outer, stack := envOfC x (defScope st) s.heap.objs.size f cdv :: outer, ex := [], pn := [], xe := fun _ _ => False, E := ⟨fun _ _ _ => True, TB⟩ } :=
    ⟨rfl, hr, S.nd, PassesOwn.never, fun z => Bool.noConfusion z, rfl, fun _ h => (by cases h), fun z => Bool.noConfusion z⟩
  refine ⟨t ⟨fun _ _ _ => True, TB⟩, (p _ ok).1, ?_⟩
  refine (p _ ok).2 (trn c.sd H + m.n) c c (fun _ => 0) H (start N vs) H ⟨startE N ds, fun _ => False⟩ _ _ (start_cf ho bd.2 a (by omega) bd.1 fun x z => z.elim) (Nat.le_refl _) hF ?_
  exact ⟨fun c' ad' s' H' r' _ le hR cf => k .non .non H' hR ⟨cf.st.1, cf.st.2, by rw [cf.sd] at le; exact le⟩ .non, fun _ _ _ _ _ _ _ z => z.elim, fun _ _ _ _ _ _ _ z => z.elim, fun d v H' hR s1 le a1 => k d v H' hR ⟨s1.1, s1.2, le⟩ a1⟩
theorem fnW_mk {P : Program} {w : World} {K : PySem.W.Frag} {mg : Str → Option Value} {base : Heap} {k : Nat} {x : Str} {st : Stmt} {f : Addr} {fd : FuncData} {N ps : List Str} {m : WS} {TB : List (Addr × Str)} (F : L2.Fun K x x st f fd) (S : FnScope N ps (defScope st)) (hp : ps.length ≤ N.length)
    (hm : mg x = some (.ref f)) (hbd : Binds K fd ps []) (hb : DSs (gOf P w K mg base k N st false TB) (defBody st) m) : FnW P w K mg base (k + 1) x ps.length (fnF N m) TB :=
  ⟨⟨f, fd, ps, rfl, fn_ok F S hp hb, hm, F.kp, hbd⟩⟩

/-! ### statements -/
def sNext : WS := ⟨fun W r => W.nx r, 0⟩
def sSeq (a b : WS) : WS := ⟨fun W r => a { W with nx := b W } r, a.n + b.n⟩
def sRet (m : WE) : WS := ⟨fun W r => m r W.rt, m.n⟩
def sRetN : WS := ⟨fun W _ => W.rt .non, 0⟩
def sIf (c : WT) (a b : WS) : WS := ⟨fun W r => c r fun k => if k = true then a W r else b W r, c.n + (a.n + b.n)⟩
def sDo (m : WE) : WS := ⟨fun W r => m r fun _ => W.nx r, m.n⟩
def Env.put (r : Env) (i : Nat) (d : D) : Env := { r with sl := r.sl.set i (.sh d) }
def sSet (i : Nat) (m : WE) : WS := ⟨fun W r => m r fun d => W.nx (r.put i d), m.n⟩
def sBrk : WS := ⟨fun W r => W.bk r, 0⟩
def sCnt : WS := ⟨fun W r => W.ct r, 0⟩
theorem Cf.put {K B c0 c ad H0 E s H r} (h : Cf K B c0 c ad H0 E s H r) {v : V} {d : D} (i : Nat) (a : At K c H v d) : Cf K B c0 c ad H0 E (s.set i (some v)) H (r.put i d) where
  sd := h.sd
  sg := h.sg
  scl := h.scl
  sT := h.sT
  tT := h.tT
  le := h.le
  st := h.st
  dom := h.dom
  dom0 := h.dom0
  osd := h.osd
  osg := h.osg
  own := fun j x e o => by
    rw [show (r.put i d).sl = r.sl.set i (.sh d) from rfl, List.getElem?_set] at e
    split at e
    · split at e
      · cases e; exact o.elim
      · cases e
    · exact h.own j x e o
  inj := fun j l x z e e2 o o2 => by
    rw [show (r.put i d).sl = r.sl.set i (.sh d) from rfl, List.getElem?_set] at e e2
    split at e
    · split at e
      · cases e; exact o.elim
      · cases e
    · split at e2
      · split at e2
        · cases e2; exact o2.elim
        · cases e2
      · exact h.inj j l x z e e2 o o2
  sl := fun j x e => by
    rw [show (r.put i d).sl = r.sl.set i (.sh d) from rfl, List.getElem?_set] at e
    split at e
    · rename_i hij
      subst hij
      split at e
      · rename_i hl
        cases e
        rw [List.getElem?_set, if_pos rfl, if_pos (by rw [h.len]; exact hl)]
        exact .sh a
      · cases e
    · rename_i hij
      have q := h.sl j x e
      rw [List.getElem?_set, if_neg hij]
      exact q
  len := by
    show (s.set i (some v)).length = (r.sl.set i (.sh d)).length
    rw [List.length_set, List.length_set]
    exact h.len
  ex := h.ex
  top := h.top
section
variable {K : PySem.W.Frag} {E : EX}
theorem sem_next : SemS K E sNext tNext := fun B c0 c ad H0 s H r W X cf bd hm k => k.nx c ad s H r Evo.refl (Nat.le_add_right _ _) hm cf
theorem sem_seq {a b : WS} {ta tb : TS} (ha : SemS K E a ta) (hb : SemS K E b tb) : SemS K E (sSeq a b) (tSeq ta tb) := by
  intro B c0 c ad H0 s H r W X cf bd hm k
  refine ha B c0 c ad H0 s H r _ _ cf (bd1 bd) hm ⟨fun c' ad' s' H' r' e le hw cf' => ?_, fun c' ad' s' H' r' e le => k.bk c' ad' s' H' r' e (up1 le), fun c' ad' s' H' r' e le => k.ct c' ad' s' H' r' e (up1 le), fun d v H' q st le => k.rt d v H' q st (up1 le)⟩
  exact hb B c0 c' ad' H0 s' H' r' W X cf' (bd2 bd le) hw (k.evo e (up2 le))
theorem sem_ret {m : WE} {t : TE} (h : SemE K E m t) : SemS K E (sRet m) (tRet t) := by
  intro B c0 c ad H0 s H r W X cf bd hm k
  refine h B c0 c ad H0 s H r _ _ cf bd hm fun d v H' hR s1 a1 => ?_
  have cf1 := cf.step s1
  exact k.rt d v H' hR cf1.st (by rw [← cf.sd]; exact s1.3) (a1.evo ⟨cf.sd.symm, fun b o e _ n => ⟨e, fun z => n (cf.le b z)⟩⟩)
theorem sem_retN : SemS K E sRetN tRetN := fun B c0 c ad H0 s H r W X cf bd hm k => k.rt .non .non H hm cf.st (by rw [← cf.sd]; exact Nat.le_add_right _ _) .non
theorem sem_if {c : WT} {a b : WS} {tc : TT} {ta tb : TS} (hc : SemT K E c tc) (ha : SemS K E a ta) (hb : SemS K E b tb) : SemS K E (sIf c a b) (tIfS tc ta tb) := by
  intro B c0 co ad H0 s H r W X cf bd hm k
  refine hc B c0 co ad H0 s H r _ _ cf (bd1 bd) hm fun x H1 hx s1 => ?_
  cases x with
  | true =>
    rw [if_pos rfl] at hx ⊢
    exact ha B c0 co ad H0 s H1 r W X (cf.step s1) (bd1 (bd2 bd s1.3)) hx (k.evo (cf.evo s1) (up3 s1.3))
  | false =>
    rw [if_neg Bool.false_ne_true] at hx ⊢
    exact hb B c0 co ad H0 s H1 r W X (cf.step s1) (bdR (bd2 bd s1.3)) hx (k.evo (cf.evo s1) (up4 s1.3))
theorem sem_do {m : WE} {t : TE} (h : SemE K E m t) : SemS K E (sDo m) (tDrop t) := by
  intro B c0 c ad H0 s H r W X cf bd hm k
  exact h B c0 c ad H0 s H r _ _ cf bd hm fun d v H' hR s1 a1 => k.nx c ad s H' r (cf.evo s1) s1.3 hR (cf.step s1)
theorem sem_set {i : Nat} {m : WE} {t : TE} (h : SemE K E m t) : SemS K E (sSet i m) (tAsg t (gName i)) := by
  intro B c0 c ad H0 s H r W X cf bd hm k
  exact h B c0 c ad H0 s H r _ _ cf bd hm fun d v H' hR s1 a1 => k.nx c ad _ H' _ (cf.evo s1) s1.3 hR ((cf.step s1).put i a1)
def sPar (i j : Nat) (a : WA) : WS := ⟨fun W r => a r fun ds => ∃ d e, ds = [d, e] ∧ W.nx ((r.put i d).put j e), a.n⟩
theorem sem_par {i j n : Nat} {a : WA} {t : TA} (h : SemA K E n a t) : SemS K E (sPar i j a) (tPar i j t) := by
  intro B c0 c ad H0 s H r W X cf bd hm k
  refine h B c0 c ad H0 s H r _ _ cf bd hm fun ds vs H' hR _ s1 a1 => ?_
  obtain ⟨d, e, rfl, hR⟩ := hR
  cases a1 with
  | cons b1 b2 =>
    cases b2 with
    | cons b3 b4 =>
      cases b4
      exact ⟨_, _, rfl, k.nx c ad _ H' _ (cf.evo s1) s1.3 hR (((cf.step s1).put i b1).put j b3)⟩
end
section
variable {g : G} {st : Stmt} {rest : List Stmt} {a b : WS} {e : Expr} {m : WE} {pos pos' : Pos}
theorem ds_nil : DSs g [] sNext := ⟨fun _ => tNext, fun _ _ => ⟨pss_nil, sem_next⟩⟩
theorem ds_cons (h : DSt g st a) (h2 : DSs g rest b) : DSs g (st :: rest) (sSeq a b) :=
  let ⟨t, p⟩ := h; let ⟨t2, p2⟩ := h2; ⟨fun E => tSeq (t E) (t2 E), fun y ok => ⟨pss_cons (p y ok).1 (p2 y ok).1, sem_seq (p y ok).2 (p2 y ok).2⟩⟩
theorem ds_one (h : DSt g st a) : DSs g [st] a := let ⟨t, p⟩ := h; ⟨t, fun y ok => ⟨pss_one (p y ok).1, (p y ok).2⟩⟩
theorem ds_ret (h : DE g e m) : DSt g (.Return (some e) pos) (sRet m) := let ⟨t, p⟩ := h; ⟨fun E => tRet (t E), fun y ok => ⟨ps_ret (p y ok).1, sem_ret (p y ok).2⟩⟩
theorem ds_retN : DSt g (.Return none pos) sRetN := ⟨fun _ => tRetN, fun _ _ => ⟨ps_retN, sem_retN⟩⟩
theorem ds_pass : DSt g (.Pass pos) sNext := ⟨fun _ => tNext, fun _ _ => ⟨ps_pass, sem_next⟩⟩
theorem ds_brk : DSt g (.Break pos) sBrk := ⟨fun _ => tBreak, fun _ _ => ⟨ps_break, fun B c0 c ad H0 s H r W X cf bd hm k => k.bk c ad s H r Evo.refl (Nat.le_add_right _ _) hm cf⟩⟩
theorem ds_cnt : DSt g (.Continue pos) sCnt := ⟨fun _ => tCont, fun _ _ => ⟨ps_continue, fun B c0 c ad H0 s H r W X cf bd hm k => k.ct c ad s H r Evo.refl (Nat.le_add_right _ _) hm cf⟩⟩
theorem ds_if {c : Expr} {x z : List Stmt} {mc : WT} (hc : DT g c mc) (ha : DSs g x a) (hb : DSs g z b) : DSt g (.If c x z pos) (sIf mc a b) :=
  let ⟨tc, pc⟩ := hc; let ⟨t, p⟩ := ha; let ⟨t2, p2⟩ := hb; ⟨fun E => tIfS (tc E) (t E) (t2 E), fun y ok => ⟨ps_if (pc y ok).1 (p y ok).1 (p2 y ok).1, sem_if (pc y ok).2 (p y ok).2 (p2 y ok).2⟩⟩
theorem ds_do (h : DE g e m) (hs : ∀ env, swapsWith e none pos.line env = pure false := by intro _; rfl) : DSt g (.Expr e pos) (sDo m) :=
  let ⟨t, p⟩ := h; ⟨fun E => tDrop (t E), fun y ok => ⟨ps_expr (p y ok).1 (hs _), sem_do (p y ok).2⟩⟩
theorem G.Ok.loc {y : Dyn} (ok : g.Ok y) {x : Str} (h : g.sc.names.lookup x = some .local ∨ g.sc.names.lookup x = some .cell) : Loc (g.cx y).env.scope x := by
  show Loc y.env.scope x
  rw [ok.sc]
  exact h
theorem G.Ok.hf {y : Dyn} (ok : g.Ok y) {x : Str} (h : g.fn x = true ∨ g.sc.names.lookup x = some .local) : (g.cx y).fn x = true ∨ (g.cx y).env.scope.names.lookup x = some .local := by
  show g.fn x = true ∨ y.env.scope.names.lookup x = some .local
  rw [ok.sc]
  exact h
theorem ds_set (i : Nat) {x : Str} (he : DE g e m) (hi : g.N[i]? = some x := by rfl) (hx : g.sc.names.lookup x = some .local ∨ g.sc.names.lookup x = some .cell := by first | exact Or.inl rfl | exact Or.inr rfl)
    (hs : ∀ env, swapsWith e (some (.Name x pos')) pos.line env = pure false := by intro _; rfl) (hf : g.fn x = true ∨ g.sc.names.lookup x = some .local := by first | exact Or.inl rfl | exact Or.inr rfl) : DSt g (.Assign [.Name x pos'] e pos) (sSet i m) :=
  let ⟨t, p⟩ := he; ⟨fun E => tAsg (t E) (gName i), fun y ok => ⟨ps_set (X := g.cx y) ok.nd hi (ok.loc hx) (p y ok).1 (hs _) (ok.hf hf), sem_set (p y ok).2⟩⟩
theorem ds_par (i j : Nat) {x y : Str} {a b : Expr} {ma : WA} {px py pt : Pos} {kt k2 pt2} (ha : DA g [a, b] ma) (hij : i ≠ j := by decide) (hi : g.N[i]? = some x := by rfl) (hj : g.N[j]? = some y := by rfl)
    (hx : g.sc.names.lookup x = some .local := by rfl) (hy : g.sc.names.lookup y = some .local := by rfl)
    (hw : ∀ env : PySem.Env, env.scope = g.sc → swappedStores [.Tuple [.Name x px, .Name y py] kt pt] (.Tuple [a, b] k2 pt2) env = pure (some [x, y]) := by
      intro env h
      unfold swappedStores
      first | rfl | (simp only [Env.kindOf, Env.blockKind, h]; rfl) | (simp only [Env.kindOf, Env.blockKind, h]; decide +kernel))
    (hs : ∀ env, swapsWithSole [.Tuple [.Name x px, .Name y py] kt pt] (.Tuple [a, b] k2 pt2) pos.line env = pure false := by intro _; rfl) :
    DSt g (.Assign [.Tuple [.Name x px, .Name y py] kt pt] (.Tuple [a, b] k2 pt2) pos) (sPar i j ma) :=
  let ⟨t, p⟩ := ha; ⟨fun E => tPar i j (t E), fun z ok => ⟨ps_par (X := g.cx z) rfl ok.nd hi hj hij (by show z.env.scope.names.lookup x = _; rw [ok.sc]; exact hx) (by show z.env.scope.names.lookup y = _; rw [ok.sc]; exact hy) (p z ok).1 (hw _ ok.sc) (hs _), sem_par (p z ok).2⟩⟩
end
end DS
/-! DS4: what is walked, targets, for, comprehensions. -/
namespace DS
open PySem PySem.Spec PyProof.Rows L2

/-! ### what is walked -/
structure ItOk (K : PySem.W.Frag) (J : It) (ds : List D) (S : Co → Hp → Prop) : Prop where
  len : ds.length ≤ sizeLine
  evo : ∀ c H c' H', S c H → Evo c H c' H' → S c' H'
  goes : ∀ i c H, i < ds.length → S c H → J.go i H
  stops : ∀ c H, S c H → J.stop ds.length H
  ylds : ∀ i c H x H' d, ds[i]? = some d → S c H → Ho c H → J.yld i H x H' → Step 0 c H H' ∧ At K c H' x d
structure WI where
  f : Env → (List D → Prop) → Prop
  n : Nat
instance : CoeFun WI fun _ => Env → (List D → Prop) → Prop := ⟨WI.f⟩
def SemI (K : PySem.W.Frag) (E : EX) (m : WI) (t : TI) : Prop := ∀ B c0 c ad H0 s H r R (Q : It → Hp → Prop), Cf K B c0 c ad H0 E s H r → trn c.sd H + m.n ≤ B → m r R → (∀ ds J S H', R ds → Step m.n c H H' → ItOk K J ds S → S c H' → Q J H') → t s H Q
def DI (g : G) (tg e : Expr) (m : WI) : Prop := ∃ t : EX → TI, ∀ y, g.Ok y → PI (g.cx y) tg e (t y.E) ∧ SemI g.K y.E m (t y.E)
theorem it_list {K : PySem.W.Frag} {a : Addr} {ds : List D} (l : ds.length ≤ sizeLine) : ItOk K (Itl K a) ds (fun c H => ∃ xs, NL K c H a xs ∧ AtL K c H xs ds) where
  len := l
  evo := fun c H c' H' ⟨xs, h, r⟩ e => ⟨xs, h.evo e, r.evo e⟩
  goes := fun i c H hi ⟨xs, h, r⟩ => by
    have hi' : i < xs.length := by rw [r.length]; exact hi
    exact ⟨xs, xs[i], h.sq, List.getElem?_eq_getElem hi'⟩
  stops := fun c H ⟨xs, h, r⟩ => ⟨xs, h.sq, Nat.le_of_eq r.length⟩
  ylds := fun i c H x H' d e ⟨xs, h, r⟩ ho ⟨e1, e2⟩ => by
    subst e1
    exact ⟨Step.refl ho.inv, r.get (e2 xs h.sq) e⟩
theorem it_tup {K : PySem.W.Frag} {a : Addr} {ds : List D} (l : ds.length ≤ sizeLine) : ItOk K (Itt K a) ds (fun c H => ∃ xs, NT K c H a xs ∧ AtL K c H xs ds) where
  len := l
  evo := fun c H c' H' ⟨xs, h, r⟩ e => ⟨xs, h.evo e, r.evo e⟩
  goes := fun i c H hi ⟨xs, h, r⟩ => by
    have hi' : i < xs.length := by rw [r.length]; exact hi
    exact ⟨xs, xs[i], h.sq, List.getElem?_eq_getElem hi'⟩
  stops := fun c H ⟨xs, h, r⟩ => ⟨xs, h.sq, Nat.le_of_eq r.length⟩
  ylds := fun i c H x H' d e ⟨xs, h, r⟩ ho ⟨e1, e2⟩ => by
    subst e1
    exact ⟨Step.refl ho.inv, r.get (e2 xs h.sq) e⟩
/-- the ints below n -/
def upto (n : Nat) : List D := (List.range n).map fun k : Nat => D.int (k : Int)
theorem upto_get {n i : Nat} {d : D} (e : (upto n)[i]? = some d) : d = .int (i : Int) ∧ i < n := by
  unfold upto at e
  rw [List.getElem?_map] at e
  by_cases h : i < n
  · rw [List.getElem?_range h] at e
    cases e
    exact ⟨rfl, h⟩
  · rw [List.getElem?_eq_none (by simpa using h)] at e
    cases e
theorem upto_len (n : Nat) : (upto n).length = n := by simp [upto]
theorem it_range {K : PySem.W.Frag} {n : Nat} (l : n ≤ sizeLine) : ItOk K (Itr 0 n) (upto n) (fun _ _ => True) where
  len := by rw [upto_len]; exact l
  evo := fun _ _ _ _ _ _ => trivial
  goes := fun i c H hi _ => by rw [upto_len] at hi; exact hi
  stops := fun c H _ => by rw [upto_len]; exact Nat.le_refl _
  ylds := fun i c H x H' d e _ ho ⟨e1, e2⟩ => by
    subst e1
    obtain ⟨rfl, _⟩ := upto_get e
    rw [e2, Int.zero_add]
    exact ⟨Step.refl ho.inv, .int _⟩
/-- a text's signs -/
def signs (z : Str) : List D := z.cps.toList.map fun c => D.str ⟨#[c]⟩
theorem it_str {K : PySem.W.Frag} {z : Str} (l : SOk z) : ItOk K (Its z) (signs z) (fun _ _ => True) where
  len := by unfold signs; rw [List.length_map, Array.length_toList]; exact l.1
  evo := fun _ _ _ _ _ _ => trivial
  goes := fun i c H hi _ => by unfold signs at hi; rw [List.length_map, Array.length_toList] at hi; exact hi
  stops := fun c H _ => by unfold signs; rw [List.length_map, Array.length_toList]; exact Nat.le_refl _
  ylds := fun i c H x H' d e _ ho ⟨e1, q, e2, e3⟩ => by
    subst e1
    unfold signs at e
    rw [List.getElem?_map, Array.getElem?_toList, e2] at e
    cases e
    rw [e3]
    exact ⟨Step.refl ho.inv, .str _ (sok_sign l (Array.mem_toList_iff.mpr (Array.mem_of_getElem? e2)))⟩
/-- a list, a tuple or a text, whichever it is -/
def iSeqT (K : PySem.W.Frag) (tl : TE) : TI := fun s H R => tl s H fun x H1 => (∃ a, x = .ref a ∧ ((∃ xs, SqL K H1 a xs ∧ R (Itl K a) H1) ∨ (∃ xs, SqT K H1 a xs ∧ R (Itt K a) H1))) ∨ ∃ z, x = .str z ∧ R (Its z) H1
theorem pi_seqT {X : Cx} {tg l : Expr} {tl : TE} (hl : PE X l tl) : PI X tg l (iSeqT X.K tl) := by
  refine ⟨fun pins s σ H R I h => ?_⟩
  refine thn (hl.run pins s σ H _ I h) fun v s1 ⟨x, H1, I1, r1, q1⟩ => ?_
  rcases q1 with ⟨a, e, ⟨xs, hq, q⟩ | ⟨xs, hq, q⟩⟩ | ⟨x, ex, q⟩
  · subst e
    cases r1
    obtain ⟨its, rv, p, hz⟩ := I1.list hq
    refine wpAny_pyIter_list p.isList ?_
    refine ⟨s1.heap.objs.size, [s1.heap.objs.size], _, _, H1, rfl, I1.kept (t' := s1.toks) fun b o e => Heap.get?_push_of_some _ e, turn_list a _, ⟨_, Heap.get?_push_size _ rfl, rfl, rfl⟩, fun b hb => ?_, q⟩
    have e : b = s1.heap.objs.size := by simpa using hb
    subst e
    exact I1.fpOk (Nat.le_refl _) (I1.hok.fresh (Nat.le_refl _))
  · subst e
    cases r1
    obtain ⟨its, rv, p, hz⟩ := I1.tuple hq
    refine wpAny_pyIter_tuple (show s1.heap.IsTuple a its.toArray from p) ?_
    refine ⟨s1.heap.objs.size, [s1.heap.objs.size], _, _, H1, rfl, I1.kept (t' := s1.toks) fun b o e => Heap.get?_push_of_some _ e, turn_tuple a _, ⟨_, Heap.get?_push_size _ rfl, rfl, rfl⟩, fun b hb => ?_, q⟩
    have e : b = s1.heap.objs.size := by simpa using hb
    subst e
    exact I1.fpOk (Nat.le_refl _) (I1.hok.fresh (Nat.le_refl _))
  · subst ex
    obtain ⟨t, rfl⟩ := r1
    cases ha : x.cps.all (· < 128)
    · exact wpAny_pyIter_wide ha (pi_one (tk := s1.toks) I1 _ (turn_str _ x t "str_iterator" (.inr rfl)) ⟨_, Heap.get?_push_size _ rfl, rfl, rfl⟩ q)
    · exact wpAny_pyIter_ascii ha (pi_one (tk := s1.toks) I1 _ (turn_str _ x t "str_ascii_iterator" (.inl rfl)) ⟨_, Heap.get?_push_size _ rfl, rfl, rfl⟩ q)
def items : D → Option (List D)
  | .lst ds => some ds
  | .tup ds => some ds
  | .str z => some (signs z)
  | _ => none
def iSeq (m : WE) : WI := ⟨fun r R => m r fun d => ∃ ds, items d = some ds ∧ R ds, m.n⟩
def iRange (m : WA) : WI := ⟨fun r R => m r fun ds => ∃ n : Int, ds = [.int n] ∧ -(2 ^ 62) ≤ n ∧ n.toNat ≤ sizeLine ∧ R (upto n.toNat), m.n⟩
section
variable {g : G} {tg e : Expr} {m : WE} {ma : WA} {p pos : Pos}
theorem di_seq (h : DE g e m) : DI g tg e (iSeq m) := by
  obtain ⟨t, q⟩ := h
  refine ⟨fun E => iSeqT g.K (t E), fun y ok => ⟨pi_seqT (q y ok).1, ?_⟩⟩
  intro B c0 c ad H0 s H r R Q cf bd hm k
  refine (q y ok).2 B c0 c ad H0 s H r _ _ cf bd hm fun d v H' hR s1 a1 => ?_
  obtain ⟨ds, e1, hR⟩ := hR
  cases a1 with
  | lst h l r1 =>
    cases e1
    exact .inl ⟨_, rfl, .inl ⟨_, h.sq, k _ _ _ H' hR s1 (it_list (by rw [← r1.length]; exact l)) ⟨_, h, r1⟩⟩⟩
  | tup h l r1 =>
    cases e1
    exact .inl ⟨_, rfl, .inr ⟨_, h.sq, k _ _ _ H' hR s1 (it_tup (by rw [← r1.length]; exact l)) ⟨_, h, r1⟩⟩⟩
  | non => cases e1
  | bl b => cases e1
  | int b => cases e1
  | str b hb => cases e1; exact .inr ⟨_, rfl, k _ _ _ H' hR s1 (it_str hb) trivial⟩
  | st => cases e1
  | dic _ _ _ => cases e1
  | err _ _ _ _ _ => cases e1
theorem di_range (hm : g.mg "range" = none) (h : DA g [e] ma) (hg : g.sc.names.lookup ("range" : Str) = some .globalImplicit := by rfl) (hs : ∀ env, starEach [e] env = [(false, eval e env)] := by intro _; rfl) : DI g tg (.Call (.Name "range" p) [e] [] pos) (iRange ma) := by
  obtain ⟨t, q⟩ := h
  refine ⟨fun E => iRng1 (t E), fun y ok => ⟨pi_range1 (X := g.cx y) (ok.gl hg) hm (q y ok).1 (hs _), ?_⟩⟩
  intro B c0 c ad H0 s H r R Q cf bd hm k
  refine (q y ok).2 B c0 c ad H0 s H r _ _ cf bd hm fun ds vs H' hR _ s1 a1 => ?_
  obtain ⟨n, rfl, n1, n2, hR⟩ := hR
  cases a1 with
  | cons b1 b2 =>
    cases b2
    cases b1
    refine ⟨n, rfl, n1, ?_, k _ _ _ H' hR s1 (it_range n2) trivial⟩
    have : sizeLine = 16777216 := sizeLine_eq
    omega
end

/-! ### targets -/
abbrev WG := D → Env → (Env → Prop) → Prop
def SemG (K : PySem.W.Frag) (E : EX) (m : WG) (ws : List Nat) (t : TG) : Prop := ∀ B c0 c ad H0 s H r v d R (Q : L2.St → Hp → Prop), Cf K B c0 c ad H0 E s H r → At K c H v d → m d r R →
  (∀ s' r', R r' → Cf K B c0 c ad H0 E s' H r' → (∀ vs : List Nat, (∀ i ∈ ws, i ∈ vs) → wipe s' vs = wipe s vs) → (∀ (j : Nat) (z : Sl), r'.sl[j]? = some z → z.own → r.sl[j]? = some z) → Q s' H) → t v s H Q
def DG (g : G) (tg : Expr) (m : WG) (ws : List Nat) : Prop := ∃ t : EX → TG, ∀ y, g.Ok y → PG (g.cx y) tg (t y.E) ∧ SemG g.K y.E m ws (t y.E)
def gN (i : Nat) : WG := fun d r R => R (r.put i d)
theorem wipe_set {i : Nat} {x : Option V} : ∀ {vs : List Nat} {s : L2.St}, i ∈ vs → wipe (s.set i x) vs = wipe s vs
  | [], _, h => by cases h
  | v :: vs, s, h => by
    unfold wipe
    by_cases e : i = v
    · subst e
      by_cases h2 : i ∈ vs
      · rw [wipe_set h2]
      · have : ∀ (vs : List Nat) (s : L2.St), i ∉ vs → wipe (s.set i x) vs = (wipe s vs).set i x := by
          intro vs
          induction vs with
          | nil => intro s _; rfl
          | cons u us ih =>
            intro s hn
            have h1 : i ≠ u := fun z => hn (z ▸ List.mem_cons_self)
            have h2 : i ∉ us := fun z => hn (List.mem_cons_of_mem _ z)
            unfold wipe
            rw [ih s h2, List.set_comm _ _ h1]
        rw [this vs s h2, List.set_set]
    · have h2 : i ∈ vs := by
        rcases List.mem_cons.mp h with z | z
        · exact absurd z e
        · exact z
      rw [wipe_set h2]
theorem put_own {r : Env} {i j : Nat} {d : D} {z : Sl} (e : (r.put i d).sl[j]? = some z) (o : z.own) : r.sl[j]? = some z := by
  rw [show (r.put i d).sl = r.sl.set i (.sh d) from rfl, List.getElem?_set] at e
  split at e
  · split at e
    · cases e; exact o.elim
    · cases e
  · exact e
theorem dg_name {g : G} (i : Nat) {x : Str} {pos : Pos} (hi : g.N[i]? = some x := by rfl) (hx : g.sc.names.lookup x = some .local ∨ g.sc.names.lookup x = some .cell := by first | exact Or.inl rfl | exact Or.inr rfl)
    (hf : g.fn x = true ∨ g.sc.names.lookup x = some .local := by first | exact Or.inl rfl | exact Or.inr rfl) : DG g (.Name x pos) (gN i) [i] :=
  ⟨fun _ => gName i, fun y ok => ⟨pg_name (X := g.cx y) ok.nd hi (ok.loc hx) (ok.hf hf), fun B c0 c ad H0 s H r v d R Q cf a hm k => k _ _ hm (cf.put i a) (fun vs hv => wipe_set (hv i (by simp))) fun j z e o => put_own e o⟩⟩
/-- two names -/
def gP (i j : Nat) : WG := fun d r R => ∃ x y, d = .tup [x, y] ∧ R ((r.put i x).put j y)
theorem dg_pair {g : G} (i j : Nat) {x y : Str} {p1 p2 pos : Pos} {k : Nat} (hi : g.N[i]? = some x := by rfl) (hj : g.N[j]? = some y := by rfl) (hx : g.sc.names.lookup x = some .local ∨ g.sc.names.lookup x = some .cell := by first | exact Or.inl rfl | exact Or.inr rfl)
    (hy : g.sc.names.lookup y = some .local ∨ g.sc.names.lookup y = some .cell := by first | exact Or.inl rfl | exact Or.inr rfl) (hf : g.fn x = true ∨ g.sc.names.lookup x = some .local := by first | exact Or.inl rfl | exact Or.inr rfl)
    (hf2 : g.fn y = true ∨ g.sc.names.lookup y = some .local := by first | exact Or.inl rfl | exact Or.inr rfl) : DG g (.Tuple [.Name x p1, .Name y p2] k pos) (gP i j) [i, j] := by
  refine ⟨fun _ => gTup g.K 2 (gCons (gName i) (gCons (gName j) gNil)), fun z ok => ⟨pg_tup rfl (pgs_cons (pg_name (X := g.cx z) ok.nd hi (ok.loc hx) (ok.hf hf)) (pgs_cons (pg_name (X := g.cx z) ok.nd hj (ok.loc hy) (ok.hf hf2)) pgs_nil)), ?_⟩⟩
  intro B c0 c ad H0 s H r v d R Q cf a hm k
  obtain ⟨d1, d2, rfl, hR⟩ := hm
  cases a with
  | tup h l r1 =>
    cases r1 with
    | cons b1 b2 =>
      cases b2 with
      | cons b3 b4 =>
        cases b4
        refine ⟨_, _, rfl, h.sq, rfl, _, _, rfl, _, _, rfl, rfl, k _ _ hR ((cf.put i b1).put j b3) (fun vs hv => ?_) fun j z e o => put_own (put_own e o) o⟩
        rw [wipe_set (hv j (by simp)), wipe_set (hv i (by simp))]

/-! ### for -/
def forW (mg : WG) (mb : WS) (W : WEnds) : List D → Env → Prop
  | [], r => W.nx r
  | d :: ds, r => mg d r fun r1 => mb { nx := fun r' => forW mg mb W ds r', ct := fun r' => forW mg mb W ds r', bk := W.nx, rt := W.rt } r1
def sFor (mi : WI) (mg : WG) (mb : WS) : WS := ⟨fun W r => mi r fun ds => forW mg mb W ds r, mi.n + sizeLine * mb.n⟩
theorem sem_for {K : PySem.W.Frag} {E : EX} {mi : WI} {mg : WG} {mb : WS} {ws : List Nat} {wi : TI} {gt : TG} {tb : TS} (hi : SemI K E mi wi) (hg : SemG K E mg ws gt) (hb : SemS K E mb tb) : SemS K E (sFor mi mg mb) (tFor wi gt tb) := by
  intro B c0 c ad H0 s H r W X cf bd hm k
  refine hi B c0 c ad H0 s H r _ _ cf (bd1 bd) hm fun ds J S H1 hR s1 I hS => ?_
  have cf1 := cf.step s1
  have s1l := s1.3
  have hl := I.len
  have bd' : trn c.sd H + (mi.n + sizeLine * mb.n) ≤ B := bd
  have kk : ∀ i, i ≤ ds.length → trn c.sd H1 + i * mb.n ≤ trn c.sd H + (mi.n + sizeLine * mb.n) := fun i hi => by
    have : i * mb.n ≤ sizeLine * mb.n := Nat.mul_le_mul_right _ (by omega)
    omega
  refine ⟨fun i m σ H2 => m = ds.length - i ∧ i ≤ ds.length ∧ ∃ c' ad' r', Evo c H c' H2 ∧ trn c'.sd H2 ≤ trn c.sd H1 + i * mb.n ∧ Cf K B c0 c' ad' H0 E σ H2 r' ∧ S c' H2 ∧ forW mg mb W (ds.drop i) r', ⟨ds.length, by simp, Nat.zero_le _, c, ad, r, cf.evo s1, Nat.le_add_right _ _, cf1, hS, hR⟩, ?_⟩
  rintro i m σ H2 ⟨rfl, hle, c', ad', r', ev, le, cf2, hS2, hW⟩
  by_cases hlt : i < ds.length
  · refine .inr ⟨I.goes i c' H2 hlt hS2, fun σ' H' => ∃ c'' ad'' r'', Evo c H c'' H' ∧ trn c''.sd H' ≤ trn c.sd H1 + (i + 1) * mb.n ∧ Cf K B c0 c'' ad'' H0 E σ' H' r'' ∧ S c'' H' ∧ forW mg mb W (ds.drop (i + 1)) r'', fun σ' H' q => ⟨ds.length - (i + 1), by omega, rfl, hlt, q⟩, fun x H3 y => ?_⟩
    have ed := List.drop_eq_getElem_cons hlt
    rw [ed] at hW
    obtain ⟨s3, a3⟩ := I.ylds i c' H2 x H3 ds[i] (List.getElem?_eq_getElem hlt) hS2 cf2.ho y
    have cf3 := cf2.step s3
    have e3 := cf2.evo s3
    have s3l := s3.3
    have k1 := kk (i + 1) hlt
    have k2 : (i + 1) * mb.n = i * mb.n + mb.n := Nat.succ_mul i mb.n
    refine hg B c0 c' ad' H0 σ H3 r' x ds[i] _ _ cf3 a3 hW fun s' r'' hb' cf4 _ _ => ?_
    refine hb B c0 c' ad' H0 s' H3 r'' _ _ cf4 (by omega) hb' ?_
    exact ⟨fun c5 ad5 s5 H5 r5 e5 l5 hw5 cf5 => ⟨c5, ad5, r5, (ev.trans e3).trans e5, by omega, cf5, I.evo _ _ _ _ hS2 (e3.trans e5), hw5⟩, fun c5 ad5 s5 H5 r5 e5 l5 hw5 cf5 => k.nx c5 ad5 s5 H5 r5 ((ev.trans e3).trans e5) (show _ ≤ trn c.sd H + (mi.n + sizeLine * mb.n) by omega) hw5 cf5,
      fun c5 ad5 s5 H5 r5 e5 l5 hw5 cf5 => ⟨c5, ad5, r5, (ev.trans e3).trans e5, by omega, cf5, I.evo _ _ _ _ hS2 (e3.trans e5), hw5⟩, fun d v H' q st l5 => k.rt d v H' q st (show _ ≤ trn c.sd H + (mi.n + sizeLine * mb.n) by omega)⟩
  · have e : i = ds.length := by omega
    subst e
    rw [List.drop_length] at hW
    exact .inl ⟨I.stops c' H2 hS2, k.nx c' ad' σ H2 r' ev (Nat.le_trans le (kk _ hle)) hW cf2⟩
theorem ds_for {g : G} {tg iter : Expr} {body : List Stmt} {mi : WI} {mg : WG} {ws : List Nat} {mb : WS} {pos : Pos} (hi : DI g tg iter mi) (hg : DG g tg mg ws) (hb : DSs g body mb) (hs : ∀ env x, foldedSetIterable iter env x = pure x := by intro _ _; rfl) :
    DSt g (.For tg iter body [] pos) (sFor mi mg mb) := by
  obtain ⟨ti, pi⟩ := hi
  obtain ⟨tt, pg⟩ := hg
  obtain ⟨tb, pb⟩ := hb
  exact ⟨fun E => tFor (ti E) (tt E) (tb E), fun y ok => ⟨ps_for ok.po rfl (pi y ok).1 (pg y ok).1 (pb y ok).1 (hs _), sem_for (pi y ok).2 (pg y ok).2 (pb y ok).2⟩⟩

/-! ### comprehensions -/
def wipeL (l : List Sl) : List Nat → List Sl
  | [] => l
  | v :: vs => (wipeL l vs).set v .un
def wipeE (r : Env) (vs : List Nat) : Env := { sl := wipeL r.sl vs, ew := fun _ => False }
theorem wipeL_length (l : List Sl) : ∀ vs : List Nat, (wipeL l vs).length = l.length
  | [] => rfl
  | v :: vs => by unfold wipeL; rw [List.length_set, wipeL_length l vs]
theorem wipeL_get {l : List Sl} {i : Nat} {x : Sl} : ∀ {vs : List Nat}, (wipeL l vs)[i]? = some x → x = .un ∨ (l[i]? = some x ∧ i ∉ vs)
  | [], h => .inr ⟨h, by simp⟩
  | v :: vs, h => by
    unfold wipeL at h
    rw [List.getElem?_set] at h
    split at h
    · split at h
      · cases h; exact .inl rfl
      · cases h
    · rename_i hv
      rcases wipeL_get h with z | ⟨z, n⟩
      · exact .inl z
      · exact .inr ⟨z, fun q => (List.mem_cons.mp q).elim (fun q => hv q.symm) n⟩
theorem wipe_get {s : L2.St} {i : Nat} : ∀ {vs : List Nat}, i ∉ vs → (wipe s vs)[i]? = s[i]?
  | [], _ => rfl
  | v :: vs, h => by
    unfold wipe
    rw [List.getElem?_set, if_neg (fun e => h (by rw [← e]; exact List.mem_cons_self)), wipe_get fun z => h (List.mem_cons_of_mem _ z)]
theorem Cf.wipe {K : PySem.W.Frag} {B : Nat} {c0 c : Co} {ad : Nat → Addr} {H0 : Hp} {E : EX} {s : L2.St} {H : Hp} {r : Env} (h : Cf K B c0 c ad H0 E s H r) (vs : List Nat) : Cf K B c0 c ad H0 E (wipe s vs) H (wipeE r vs) where
  sd := h.sd
  sg := h.sg
  scl := h.scl
  sT := h.sT
  tT := h.tT
  le := h.le
  st := h.st
  dom := h.dom
  dom0 := h.dom0
  osd := h.osd
  osg := h.osg
  own := fun i x e o => by
    rcases wipeL_get e with z | ⟨z, _⟩
    · subst z; exact o.elim
    · exact h.own i x z o
  inj := fun i j x w e e2 o o2 => by
    rcases wipeL_get e with z | ⟨z, _⟩
    · subst z; exact o.elim
    · rcases wipeL_get e2 with z2 | ⟨z2, _⟩
      · subst z2; exact o2.elim
      · exact h.inj i j x w z z2 o o2
  sl := fun i x e => by
    rcases wipeL_get e with z | ⟨z, n⟩
    · subst z; exact .un
    · have q := h.sl i x z
      rw [wipe_get n]
      exact q
  len := by rw [wipe_length]; show s.length = (wipeL r.sl vs).length; rw [wipeL_length]; exact h.len
  ex := fun x z => z.elim
  top := h.top
/-- one more object that may be changed: a new one -/
def Co.with (c : Co) (p : Addr) : Co := { c with O := fun b => c.O b ∨ b = p }
theorem evo_with {c : Co} {H : Hp} {p : Addr} {o : HO} (hp : H p = none) : Evo c H (c.with p) (upd H p o) :=
  ⟨rfl, fun b u e _ n => ⟨by rw [upd_ne (ne_of_none e hp)]; exact e, fun z => z.elim n fun z => ne_of_none e hp z⟩⟩
theorem evo_less {c : Co} {H : Hp} {p : Addr} : Evo (c.with p) H c H := ⟨rfl, fun b u e _ n => ⟨e, fun z => n (.inl z)⟩⟩
theorem Cf.with {K : PySem.W.Frag} {B : Nat} {c0 c : Co} {ad : Nat → Addr} {H0 : Hp} {E : EX} {s : L2.St} {H : Hp} {r : Env} (h : Cf K B c0 c ad H0 E s H r) {p : Addr} {o : HO} (hp : H p = none) (to : nT o) : Cf K B c0 (c.with p) ad H0 E s (upd H p o) r := by
  have q := h.step (Step.new (n := 0) h.inv hp (o := o))
  exact { sd := h.sd, sg := h.sg, scl := h.scl, sT := h.sT, tT := h.tT, dom0 := h.dom0, le := fun b hb => .inl (h.le b hb), st := q.st, osd := .inl h.osd, osg := .inl h.osg, inj := h.inj, len := h.len, ex := h.ex, top := h.top
          dom := fun b hb => hb.elim (q.dom b) fun z => ⟨o, by rw [z]; exact upd_same, to⟩
          own := fun i x e o => ⟨.inl (h.own i x e o).1, (h.own i x e o).2⟩
          sl := fun i x e => (h.sl i x e).evo (evo_with hp) fun _ u z _ => by rw [upd_ne (ne_of_none z hp)]; exact z }
/-- the list that grows, at p -/
theorem Cf.grow {K : PySem.W.Frag} {B : Nat} {c0 c : Co} {ad : Nat → Addr} {H0 : Hp} {E : EX} {s : L2.St} {H : Hp} {r : Env} {p : Addr} (h : Cf K B c0 (c.with p) ad H0 E s H r) {o o' : HO} (hp : H p = some o) (to : nT o') (tt : LamX.Tabs c.T (upd H p o')) (h0 : Fr H0 p) (h1 : p ≠ c.sd) (h2 : p ≠ c.sg) (h3 : p ≠ c.sl) (hown : ∀ i x, r.sl[i]? = some x → x.own → ad i ≠ p) :
    Cf K B c0 (c.with p) ad H0 E s (upd H p o') r ∧ Evo (c.with p) H (c.with p) (upd H p o') := by
  have ev : Evo (c.with p) H (c.with p) (upd H p o') := ⟨rfl, fun b u e _ n => ⟨by rw [upd_ne fun z => n (.inr z)]; exact e, n⟩⟩
  refine ⟨{ sd := h.sd, sg := h.sg, scl := h.scl, sT := h.sT, tT := h.tT, dom0 := h.dom0, le := h.le, osd := h.osd, osg := h.osg, inj := h.inj, len := h.len, ex := h.ex, top := h.top, own := h.own, st := ?_, dom := ?_, sl := ?_ }, ev⟩
  · obtain ⟨⟨g, cl, l, t, e1, e2, e3, q1, q2, q3, q4, q5, _⟩, k⟩ := h.st
    have n1 : c0.sd ≠ p := by rw [← h.sd]; exact h1.symm
    have n2 : c0.sg ≠ p := by rw [← h.sg]; exact h2.symm
    have n3 : c0.sl ≠ p := by rw [← h.scl]; exact h3.symm
    refine ⟨⟨g, cl, l, t, by rw [upd_ne n1]; exact e1, by rw [upd_ne n2]; exact e2, by rw [upd_ne n3]; exact e3, q1, q2, q3, q4, q5, by rw [← h.sT]; exact tt⟩, fun b u e m1 m2 mt => ?_⟩
    rw [upd_ne (h0.ne e mt)]
    exact k b u e m1 m2 mt
  · intro b hb
    by_cases e : b = p
    · exact ⟨o', by rw [e]; exact upd_same, to⟩
    · rw [upd_ne e]; exact h.dom b hb
  · intro i x e
    exact (h.sl i x e).evo ev fun o u z _ => by rw [upd_ne (hown i x e o)]; exact z
def lcW (mg : WG) (mc : WT) (me : WE) (r : Env) (k : List D → Prop) : List D → List D → Prop
  | [], out => k out
  | d :: ds, out => mg d r fun r1 => mc r1 fun b => if b = true then me r1 fun z => lcW mg mc me r k ds (out ++ [z]) else lcW mg mc me r k ds out
def eLc (mi : WI) (mg : WG) (mc : WT) (me : WE) (vs : List Nat) : WE := ⟨fun r R => mi r fun ds => lcW mg mc me (wipeE r vs) (fun out => R (.lst out)) ds [], mi.n + sizeLine * (mc.n + me.n)⟩
def cYes : WT := ⟨fun _ R => R true, 0⟩
def G.blk (g : G) (scope : Scope) : G := { g with sc := relS scope g.sc, fn := fun x => scope.names.lookup x == some .cell, rs := false }
def DTs (g : G) (ifs : List Expr) (m : WT) : Prop := ∃ t : EX → TT, ∀ y, g.Ok y → PTs (g.cx y) ifs (t y.E) ∧ SemT g.K y.E m (t y.E)
theorem dts_nil {g : G} : DTs g [] cYes := ⟨fun _ => tYes, fun y ok => ⟨pts_nil, fun B c0 c ad H0 s H r R Q cf bd hm k => k true H hm (Step.refl cf.inv)⟩⟩
theorem dts_one {g : G} {e : Expr} {m : WT} (h : DT g e m) : DTs g [e] m := let ⟨t, p⟩ := h; ⟨t, fun y ok => ⟨pts_one (p y ok).1, (p y ok).2⟩⟩
/-- an expression that makes a new list: it lies apart -/
structure WF where
  f : Env → (Sl → Prop) → Prop
  n : Nat
instance : CoeFun WF fun _ => Env → (Sl → Prop) → Prop := ⟨WF.f⟩
def SemF (K : PySem.W.Frag) (E : EX) (m : WF) (t : TE) : Prop := ∀ B c0 c ad H0 s H r R Q, Cf K B c0 c ad H0 E s H r → trn c.sd H + m.n ≤ B → m r R → (∀ x p H', R x → x.own → Fr H p → Step m.n c H H' → ObAt K (c.with p) H' p x → Q (.ref p) H') → t s H Q
def fLc (mi : WI) (mg : WG) (mc : WT) (me : WE) (vs : List Nat) : WF := ⟨fun r R => mi r fun ds => lcW mg mc me (wipeE r vs) (fun out => R (.ol out)) ds [], mi.n + sizeLine * (mc.n + me.n)⟩
theorem wipe_idem (s : L2.St) (vs : List Nat) : L2.wipe (L2.wipe s vs) vs = L2.wipe s vs := by
  have key : ∀ (l : List Nat) (u : L2.St), (∀ j ∈ l, ∀ q, u[j]? = some q → q = none) → L2.wipe u l = u := by
    intro l
    induction l with
    | nil => intro u _; rfl
    | cons j js ih =>
      intro u hu
      unfold L2.wipe
      rw [ih u fun a ha => hu a (List.mem_cons_of_mem _ ha)]
      refine List.ext_getElem? fun b => ?_
      rw [List.getElem?_set]
      split
      · rename_i hjb
        subst hjb
        split
        · rename_i hl
          rw [List.getElem?_eq_getElem hl]
          exact congrArg some (hu j List.mem_cons_self _ (List.getElem?_eq_getElem hl)).symm
        · rename_i hl
          rw [List.getElem?_eq_none (by omega)]
      · rfl
  refine key vs _ fun j hj q hq => ?_
  cases q with
  | none => rfl
  | some q => exact absurd hj (wipe_some hq).2
theorem sem_flc {K : PySem.W.Frag} {E : EX} {mi : WI} {mg : WG} {mc : WT} {me : WE} {ws vs : List Nat} {wi : TI} {gt : TG} {tt : TT} {te : TE} (hv : ∀ i ∈ ws, i ∈ vs) (hi : SemI K E mi wi) (hg : SemG K E mg ws gt) (ht : SemT K E mc tt) (he : SemE K E me te) :
    SemF K E (fLc mi mg mc me vs) (tLc wi gt tt te vs) := by
  intro B c0 c ad H0 s H r R Q cf bd hm k
  refine hi B c0 c ad H0 s H r _ _ cf (bd1 bd) hm fun ds J S H1 hR s1 I hS => ?_
  have cf1 := cf.step s1
  have s1l := s1.3
  have hl := I.len
  have bd' : trn c.sd H + (mi.n + sizeLine * (mc.n + me.n)) ≤ B := bd
  have kk : ∀ i, i ≤ ds.length → trn c.sd H1 + i * (mc.n + me.n) ≤ trn c.sd H + (mi.n + sizeLine * (mc.n + me.n)) := fun i hi => by
    have : i * (mc.n + me.n) ≤ sizeLine * (mc.n + me.n) := Nat.mul_le_mul_right _ (by omega)
    omega
  intro p hp
  have h0p : Fr H0 p := cf1.st.free0 hp
  obtain ⟨g0, cl0, l0, t0, z1, z2, z3, _⟩ := cf1.inv
  have n1 : p ≠ c.sd := fun z => by rw [← z, hp] at z1; cases z1
  have n2 : p ≠ c.sg := fun z => by rw [← z, hp] at z2; cases z2
  have n3 : p ≠ c.sl := fun z => by rw [← z, hp] at z3; cases z3
  have hown : ∀ (i : Nat) (x : Sl), (wipeE r vs).sl[i]? = some x → x.own → ad i ≠ p := fun i x e o z => by
    rcases wipeL_get e with q | ⟨q, _⟩
    · subst q; exact o.elim
    · obtain ⟨u, q, _⟩ := cf1.dom _ (cf1.own i x q o).1
      rw [z, hp] at q; cases q
  refine ⟨fun i m H2 => m = ds.length - i ∧ i ≤ ds.length ∧ ∃ xs out, H2 p = some (.lst xs) ∧ xs.length ≤ i ∧ AtL K (c.with p) H2 xs out ∧ Cf K B c0 (c.with p) ad H0 E (wipe s vs) H2 (wipeE r vs) ∧ S (c.with p) H2 ∧ (∀ b o, H1 b = some o → b ≠ c.sd → b ≠ c.sg → nT o → H2 b = some o) ∧ trn c.sd H2 ≤ trn c.sd H1 + i * (mc.n + me.n) ∧ lcW mg mc me (wipeE r vs) (fun out => R (.ol out)) (ds.drop i) out,
    ⟨ds.length, by simp, Nat.zero_le _, [], [], upd_same, Nat.le_refl _, .nil, (cf1.wipe vs).with hp nTL, I.evo _ _ _ _ hS (evo_with hp), fun b o e _ _ _ => by rw [upd_ne (ne_of_none e hp)]; exact e, by rw [trn_new cf1.inv hp]; exact Nat.le_add_right _ _, hR⟩, ?_⟩
  rintro i m H2 ⟨rfl, hle, xs, out, hx, hxl, hxa, cf2, hS2, fr, le, hW⟩
  by_cases hlt : i < ds.length
  · refine .inr ⟨I.goes i _ H2 hlt hS2, fun H' => ∃ xs out, H' p = some (.lst xs) ∧ xs.length ≤ i + 1 ∧ AtL K (c.with p) H' xs out ∧ Cf K B c0 (c.with p) ad H0 E (L2.wipe s vs) H' (wipeE r vs) ∧ S (c.with p) H' ∧ (∀ b o, H1 b = some o → b ≠ c.sd → b ≠ c.sg → nT o → H' b = some o) ∧ trn c.sd H' ≤ trn c.sd H1 + (i + 1) * (mc.n + me.n) ∧ lcW mg mc me (wipeE r vs) (fun out => R (.ol out)) (ds.drop (i + 1)) out,
      fun H' q => ⟨ds.length - (i + 1), by omega, rfl, hlt, q⟩, fun x H3 y => ?_⟩
    have ed := List.drop_eq_getElem_cons hlt
    rw [ed] at hW
    obtain ⟨s3, a3⟩ := I.ylds i _ H2 x H3 ds[i] (List.getElem?_eq_getElem hlt) hS2 cf2.ho y
    have cf3 := cf2.step s3
    have e3 := cf2.evo s3
    have s3l : trn c.sd H3 ≤ trn c.sd H2 + 0 := s3.3
    have k1 := kk (i + 1) hlt
    have k2 : (i + 1) * (mc.n + me.n) = i * (mc.n + me.n) + (mc.n + me.n) := Nat.succ_mul i (mc.n + me.n)
    have hx3 : H3 p = some (.lst xs) := s3.2 _ _ hx n1 n2 nTL
    refine hg B c0 _ ad H0 _ H3 _ x ds[i] _ _ cf3 a3 hW fun s' r' hr' cf4 hw4 _ => ?_
    refine ⟨(hw4 vs hv).trans (wipe_idem s vs), ?_⟩
    refine ht B c0 _ ad H0 s' H3 r' _ _ cf4 (show trn c.sd H3 + mc.n ≤ B by omega) hr' fun b H4 hb s4 => ?_
    have cf5 := cf4.step s4
    have s4l : trn c.sd H4 ≤ trn c.sd H3 + mc.n := s4.3
    have hx4 : H4 p = some (.lst xs) := s4.2 _ _ hx3 n1 n2 nTL
    have e4 := cf4.evo s4
    have fr4 : ∀ b o, H1 b = some o → b ≠ c.sd → b ≠ c.sg → nT o → H4 b = some o := fun b o e m1 m2 mt => s4.2 _ _ (s3.2 _ _ (fr b o e m1 m2 mt) m1 m2 mt) m1 m2 mt
    cases b with
    | true =>
      rw [if_pos rfl] at hb ⊢
      refine he B c0 _ ad H0 s' H4 r' _ _ cf5 (show trn c.sd H4 + me.n ≤ B by omega) hb fun z v H5 hz s5 a5 => ?_
      have e5 := cf5.evo s5
      have s5l : trn c.sd H5 ≤ trn c.sd H4 + me.n := s5.3
      have hx5 : H5 p = some (.lst xs) := s5.2 _ _ hx4 n1 n2 nTL
      have cfw : Cf K B c0 (c.with p) ad H0 E (L2.wipe s vs) H5 (wipeE r vs) := ((cf3.step s4).step s5)
      obtain ⟨cf6, e6⟩ := cfw.grow (o' := .lst (xs ++ [v])) hx5 nTL (tabs_upd cfw.inv.tabs hx5 nTL nCL) h0p n1 n2 n3 hown
      refine ⟨xs, hx5, by have := I.len; omega, xs ++ [v], out ++ [z], upd_same, by rw [List.length_append, List.length_singleton]; omega, ?_, cf6, ?_, fun b o e m1 m2 mt => ?_, ?_, hz⟩
      · exact ((((hxa.evo e3).evo e4).evo e5).append (.cons a5 .nil)).evo e6
      · exact I.evo _ _ _ _ hS2 (((e3.trans e4).trans e5).trans e6)
      · rw [upd_ne (ne_of_none e hp)]
        exact s5.2 _ _ (fr4 b o e m1 m2 mt) m1 m2 mt
      · rw [trn_same (upd_ne (Ne.symm n1))]; omega
    | false =>
      rw [if_neg Bool.false_ne_true] at hb ⊢
      exact ⟨xs, out, hx4, by omega, (hxa.evo e3).evo e4, cf3.step s4, I.evo _ _ _ _ hS2 (e3.trans e4), fr4, by omega, hb⟩
  · have e : i = ds.length := by omega
    subst e
    rw [List.drop_length] at hW
    exact .inl ⟨I.stops _ H2 hS2, k (.ol out) p H2 hW trivial (s1.free0 hp) ⟨cf2.inv, fun b o e m1 m2 mt => fr b o (s1.2 b o e m1 m2 mt) m1 m2 mt, Nat.le_trans le (kk _ hle)⟩ ⟨xs, hx, by have := I.len; omega, hxa⟩⟩
def WF.e (m : WF) : WE := ⟨fun r R => m r fun x => match x with | .ol ds => R (.lst ds) | _ => False, m.n⟩
theorem SemF.toE {K : PySem.W.Frag} {E : EX} {m : WF} {t : TE} (h : SemF K E m t) : SemE K E m.e t := by
  intro B c0 c ad H0 s H r R Q cf bd hm k
  refine h B c0 c ad H0 s H r _ _ cf bd hm fun x p H' hR o hp st ob => ?_
  cases x with
  | ol ds =>
    obtain ⟨xs, e, l, a⟩ := ob
    exact k (.lst ds) (.ref p) H' hR st (.lst (.inl ⟨.inl e, cf.freeF hp⟩) l (a.evo evo_less))
  | _ => exact hR.elim
theorem sem_lc {K : PySem.W.Frag} {E : EX} {mi : WI} {mg : WG} {mc : WT} {me : WE} {ws vs : List Nat} {wi : TI} {gt : TG} {tt : TT} {te : TE} (hv : ∀ i ∈ ws, i ∈ vs) (hi : SemI K E mi wi) (hg : SemG K E mg ws gt) (ht : SemT K E mc tt) (he : SemE K E me te) :
    SemE K E (eLc mi mg mc me vs) (tLc wi gt tt te vs) := (sem_flc hv hi hg ht he).toE
section
variable {g : G} {elt tg iter : Expr} {ifs : List Expr} {scope : Scope} {pos : Pos} {mi : WI} {mg : WG} {mc : WT} {me : WE} {ws : List Nat}
theorem blk_ok {y : Dyn} (ok : g.Ok y) (s : Shared) (H : Hp) (C : Addr) (cl : List (Str × Addr)) (fp : List Addr) :
    (g.blk scope).Ok { A := y.A, s0 := s, H0 := H, env := compEnvC scope cl C y.env, outer := y.stack, stack := y.stack, ex := fp, pn := [], xe := fun _ _ => False, E := y.E } := by
  refine ⟨?_, ok.room, ok.nd, PassesOwn.never, fun z => Bool.noConfusion z, ok.tb, ok.cq, ok.gd⟩
  show relS scope y.env.scope = relS scope g.sc
  rw [ok.sc]
theorem de_lc (own : List (Str × Nat)) (hi : DI g tg iter mi) (hb : blkC g.N g.sc scope own = true) (hg : DG (g.blk scope) tg mg ws) (ht : DTs (g.blk scope) ifs mc) (he : DE (g.blk scope) elt me) (hv : ∀ i ∈ ws, i ∈ own.map (·.2) := by decide)
    (hs : ∀ env x, foldedSetIterable iter env x = pure x := by intro _ _; rfl) : DE g (.ListComp elt [⟨tg, iter, ifs, 0⟩] scope pos) (eLc mi mg mc me (own.map (·.2))) := by
  obtain ⟨ti, pi⟩ := hi
  obtain ⟨tg', pg⟩ := hg
  obtain ⟨tt, pt⟩ := ht
  obtain ⟨te, pe⟩ := he
  refine ⟨fun E => tLc (ti E) (tg' E) (tt E) (te E) (own.map (·.2)), fun y ok => ⟨?_, ?_⟩⟩
  · refine pe_lc (X := g.cx y) rfl ok.nd (pi y ok).1 (blkOk_by (by show blkC g.N y.env.scope scope own = true; rw [ok.sc]; exact hb)) (fun s H C cl fp => (pg _ (blk_ok ok s H C cl fp)).1) (fun s H C cl fp => (pt _ (blk_ok ok s H C cl fp)).1) (fun s H C cl fp => (pe _ (blk_ok ok s H C cl fp)).1) (hs _)
  · have ok' := blk_ok (scope := scope) ok y.s0 y.H0 y.env.locals [] []
    exact sem_lc hv (pi y ok).2 (pg _ ok').2 (pt _ ok').2 (pe _ ok').2
theorem ds_setLc (own : List (Str × Nat)) (i : Nat) {y : Str} {py spos : Pos} (hi : DI g tg iter mi) (hb : blkC g.N g.sc scope own = true) (hg : DG (g.blk scope) tg mg ws) (ht : DTs (g.blk scope) ifs mc) (he : DE (g.blk scope) elt me) (hv : ∀ i ∈ ws, i ∈ own.map (·.2) := by decide)
    (hN : g.N[i]? = some y := by rfl) (hy : g.sc.names.lookup y = some .local := by rfl) (hk : g.sc.kind = .function := by rfl) (hl : (py.line == pos.line) = true := by rfl) (ha : (scope.names.any fun (n, k) => n == y && (k == .local || k == .cell)) = false := by decide +kernel)
    (hs : ∀ env x, foldedSetIterable iter env x = pure x := by intro _ _; rfl) : DSt g (.Assign [.Name y py] (.ListComp elt [⟨tg, iter, ifs, 0⟩] scope pos) spos) (sSet i (eLc mi mg mc me (own.map (·.2)))) := by
  obtain ⟨ti, pi⟩ := hi
  obtain ⟨tg', pg⟩ := hg
  obtain ⟨tt, pt⟩ := ht
  obtain ⟨te, pe⟩ := he
  refine ⟨fun E => tAsg (tLc (ti E) (tg' E) (tt E) (te E) (own.map (·.2))) (gName i), fun z ok => ⟨?_, ?_⟩⟩
  · refine ps_setLc (X := g.cx z) rfl ok.nd hN (by show z.env.scope.names.lookup y = _; rw [ok.sc]; exact hy) (sw_true (by show z.env.scope.kind = _; rw [ok.sc]; exact hk) (by show z.env.scope.names.lookup y = _; rw [ok.sc]; exact hy) hl ha) (pi z ok).1
      (blkOk_by (by show blkC g.N z.env.scope scope own = true; rw [ok.sc]; exact hb)) (fun s H C cl fp => (pg _ (blk_ok ok s H C cl fp)).1) (fun s H C cl fp => (pt _ (blk_ok ok s H C cl fp)).1) (fun s H C cl fp => (pe _ (blk_ok ok s H C cl fp)).1) (hs _)
  · have ok' := blk_ok (scope := scope) ok z.s0 z.H0 z.env.locals [] []
    exact sem_set (sem_lc hv (pi z ok).2 (pg _ ok').2 (pt _ ok').2 (pe _ ok').2)
end
end DS
/-! DS5: the operators' own meanings. -/
namespace DS
open PySem PySem.Spec PyProof.Rows L2

/-! ### whole numbers -/
def i2 (f : Int → Int → Option D) : D → D → Option D := fun x y => match x with
  | .int i => match y with
    | .int j => f i j
    | _ => none
  | _ => none
theorem i2_inv {f : Int → Int → Option D} {x y z : D} (h : i2 f x y = some z) : ∃ i j, x = .int i ∧ y = .int j ∧ f i j = some z := by
  cases x with
  | int i => cases y with
    | int j => exact ⟨i, j, rfl, rfl, h⟩
    | _ => cases h
  | _ => cases h
theorem sem_i0 {K : PySem.W.Frag} {f : Int → Int → Int} : SemO K (i2 fun i j => some (.int (f i j))) (rI0 fun i j => .int (f i j)) := by
  intro c H v u x y z Q ho a b e k
  obtain ⟨i, j, rfl, rfl, e⟩ := i2_inv e
  cases a; cases b; cases e
  exact ⟨i, j, rfl, rfl, k _ H (Step.refl ho.inv) (.int _)⟩
theorem sem_ib {K : PySem.W.Frag} {f : Int → Int → Bool} : SemO K (i2 fun i j => some (.bl (f i j))) (rI0 fun i j => .bl (f i j)) := by
  intro c H v u x y z Q ho a b e k
  obtain ⟨i, j, rfl, rfl, e⟩ := i2_inv e
  cases a; cases b; cases e
  exact ⟨i, j, rfl, rfl, k _ H (Step.refl ho.inv) (.bl _)⟩
theorem sem_ic {K : PySem.W.Frag} {C : Int → Int → Prop} [DecidableRel C] {f : Int → Int → Int} : SemO K (i2 fun i j => if C i j then some (.int (f i j)) else none) (rI C fun i j => .int (f i j)) := by
  intro c H v u x y z Q ho a b e k
  obtain ⟨i, j, rfl, rfl, e'⟩ := i2_inv e
  cases a; cases b
  split at e'
  · rename_i hc
    cases e'
    exact ⟨i, j, rfl, rfl, hc, k _ H (Step.refl ho.inv) (.int _)⟩
  · cases e'
theorem SemO.or {K : PySem.W.Frag} {f f' : D → D → Option D} {r r' : R2} (h : SemO K f r) (h' : SemO K f' r') : SemO K (fun x y => (f x y).or (f' x y)) (fun x y H Q => r x y H Q ∨ r' x y H Q) := by
  intro c H v u x y z Q ho a b e k
  have e : (f x y).or (f' x y) = some z := e
  cases q : f x y with
  | some w =>
    rw [q, Option.some_or] at e
    cases e
    exact .inl (h c H v u x y _ Q ho a b q k)
  | none =>
    rw [q, Option.none_or] at e
    exact .inr (h' c H v u x y z Q ho a b e k)
def ltD : D → D → Option D := i2 fun i j => some (.bl (decide (i < j)))
def leD : D → D → Option D := i2 fun i j => some (.bl (decide (i ≤ j)))
def gtD : D → D → Option D := i2 fun i j => some (.bl (decide (j < i)))
def geD : D → D → Option D := i2 fun i j => some (.bl (decide (j ≤ i)))
theorem s_lt {K} : SemO K ltD (rI0 fun i j => .bl (decide (i < j))) := sem_ib
theorem s_le {K} : SemO K leD (rI0 fun i j => .bl (decide (i ≤ j))) := sem_ib
theorem s_gt {K} : SemO K gtD (rI0 fun i j => .bl (decide (j < i))) := sem_ib
theorem s_ge {K} : SemO K geD (rI0 fun i j => .bl (decide (j ≤ i))) := sem_ib
def subD : D → D → Option D := i2 fun i j => some (.int (i - j))
theorem s_sub {K} : SemO K subD (rI0 fun i j => .int (i - j)) := sem_i0
instance : DecidableRel CMul := fun i j => by unfold CMul; exact inferInstance
def mulI : D → D → Option D := i2 fun i j => if CMul i j then some (.int (i * j)) else none
theorem s_mulI {K} : SemO K mulI (rI CMul fun i j => .int (i * j)) := sem_ic
def modD : D → D → Option D := i2 fun i j => if 0 < j then some (.int (i % j)) else none
theorem s_mod {K} : SemO K modD (rI (fun _ j => 0 < j) fun i j => .int (i % j)) := sem_ic
instance : DecidableRel CDiv := fun i j => by unfold CDiv; exact inferInstance
def fdivD : D → D → Option D := i2 fun i j => if CDiv i j then some (.int (i / j)) else none
theorem s_fdiv {K} : SemO K fdivD (rI CDiv fun i j => .int (i / j)) := sem_ic
instance : DecidableRel CPow := fun i j => by unfold CPow; exact inferInstance
def powD : D → D → Option D := i2 fun i j => if CPow i j then some (.int (i ^ j.toNat)) else none
theorem s_pow {K} : SemO K powD (rI CPow fun i j => .int (i ^ j.toNat)) := sem_ic

/-! ### one place -/
def SemU (K : PySem.W.Frag) (f : D → Option D) (r : V → Hp → VK → Prop) : Prop := ∀ c H v x z Q, Ho c H → At K c H v x → f x = some z → (∀ v' H', Step 0 c H H' → At K c H' v' z → Q v' H') → r v H Q
def eUn (f : D → Option D) (a : WE) : WE := ⟨fun r R => a r fun x => ∃ z, f x = some z ∧ R z, a.n⟩
theorem de_un {g : G} {op : UnaryOp} {f : D → Option D} {r : V → Hp → VK → Prop} {a : Expr} {ma : WE} {pos : Pos} (ho : ∀ y, g.Ok y → UnR (g.cx y) (unaryOp op) r) (h : SemU g.K f r) (ha : DE g a ma) : DE g (.UnaryOp op a pos) (eUn f ma) := by
  obtain ⟨ta, pa⟩ := ha
  refine ⟨fun E => tUn r (ta E), fun y ok => ⟨pe_un (ho y ok) (pa y ok).1, ?_⟩⟩
  intro B c0 c ad H0 s H rr R Q cf bd hm k
  refine (pa y ok).2 B c0 c ad H0 s H rr _ _ cf bd hm fun x v H1 hx s1 a1 => ?_
  obtain ⟨z, e, hR⟩ := hx
  exact h c H1 v x z Q (cf.step s1).ho a1 e fun v' H' s2 a2 => k z v' H' hR (s1.trans s2) a2
def negD : D → Option D
  | .int i => some (.int (-i))
  | _ => none
theorem s_neg {K} : SemU K negD (rU fun i => .int (-i)) := by
  intro c H v x z Q ho a e k
  cases a with
  | int i => cases e; exact ⟨i, rfl, k _ H (Step.refl ho.inv) (.int _)⟩
  | _ => cases e

/-! ### == -/
mutual
def toP : D → PyData
  | .non => .none
  | .bl b => .bool b
  | .int i => .int i
  | .str x => .str x
  | .tup ds => .tuple (toPs ds)
  | .lst ds => .list (toPs ds)
  | .dic _ _ => .none
  | .st => .none
  | .err _ _ _ => .none
def toPs : List D → List PyData
  | [] => []
  | d :: ds => toP d :: toPs ds
end
mutual
/-- it holds no dict and no object -/
def okq : D → Bool
  | .non => true
  | .bl _ => true
  | .int _ => true
  | .str _ => true
  | .tup ds => okqs ds
  | .lst ds => okqs ds
  | .dic _ _ => false
  | .st => false
  | .err _ _ _ => false
def okqs : List D → Bool
  | [] => true
  | d :: ds => okq d && okqs ds
end
section
variable {K : PySem.W.Frag} {c : Co} {H : Hp}
mutual
theorem At.lay {d : D} {v : V} (h : okq d = true) (a : At K c H v d) : (toP d).canLay0 = true := by
  match d, a with
  | .non, _ => rfl
  | .bl _, _ => rfl
  | .int _, _ => rfl
  | .str x, a => exact a.sok.2
  | .tup ds, .tup _ _ r => simp only [toP, PyData.canLay0]; exact AtL.lay (by simpa only [okq] using h) r
  | .lst ds, .lst _ _ r => simp only [toP, PyData.canLay0]; exact AtL.lay (by simpa only [okq] using h) r
  | .dic _ _, _ => simp [okq] at h
  | .st, _ => simp [okq] at h
  | .err _ _ _, _ => simp [okq] at h
theorem AtL.lay {ds : List D} {vs : List V} (h : okqs ds = true) (a : AtL K c H vs ds) : PyData.canLayAll0 (toPs ds) = true := by
  match ds, a with
  | [], _ => rfl
  | d :: ds, .cons b r =>
    simp only [okqs, Bool.and_eq_true] at h
    simp only [toPs, PyData.canLayAll0, Bool.and_eq_true]
    exact ⟨At.lay h.1 b, AtL.lay h.2 r⟩
end
end
section
variable {K : PySem.W.Frag} {c : Co} {H : Hp}
mutual
theorem At.dp : ∀ {d : D} {v : V}, okq d = true → At K c H v d → Dp K H v (toP d)
  | .non, _, _, .non => by simp only [toP]; exact .non
  | .bl _, _, _, .bl b => by simp only [toP]; exact .bl b
  | .int _, _, _, .int b => by simp only [toP]; exact .int b
  | .str _, _, _, .str b _ => by simp only [toP]; exact .str b
  | .tup ds, _, q, .tup h l r => by simp only [toP]; exact .tup h.sq (AtL.dp (by simpa only [okq] using q) r)
  | .lst ds, _, q, .lst h l r => by simp only [toP]; exact .lst h.sq (AtL.dp (by simpa only [okq] using q) r)
  | .dic _ _, _, q, _ => by simp [okq] at q
  | .st, _, q, _ => by simp [okq] at q
  | .err _ _ _, _, q, _ => by simp [okq] at q
theorem AtL.dp : ∀ {ds : List D} {vs : List V}, okqs ds = true → AtL K c H vs ds → DpAll K H vs (toPs ds)
  | [], _, _, .nil => by simp only [toPs]; exact .nil
  | d :: ds, _, q, .cons h r => by
    simp only [okqs, Bool.and_eq_true] at q
    simp only [toPs]
    exact .cons (At.dp q.1 h) (AtL.dp q.2 r)
end
end
/-- a tuple or a list against an empty one of its kind -/
def emp (x y : D) : Option Bool := match y with
  | .tup ys => match x with
    | .tup xs => if ys.isEmpty then some xs.isEmpty else none
    | _ => none
  | .lst ys => match x with
    | .lst xs => if ys.isEmpty then some xs.isEmpty else none
    | _ => none
  | _ => none
def eqB (x y : D) : Option Bool := (emp x y).or (if okq x = true ∧ okq y = true ∧ min (toP x).depth (toP y).depth ≤ 64 then some (PyData.eqv (toP x) (toP y)) else none)
def eqD (x y : D) : Option D := (eqB x y).map .bl
def neD (x y : D) : Option D := (eqB x y).map fun b => .bl (!b)
def rEqA (K : PySem.W.Frag) (f : Bool → Bool) : R2 := fun x y H Q => (∃ d e, Dp K H x d ∧ Dp K H y e ∧ d.canLay0 = true ∧ e.canLay0 = true ∧ min d.depth e.depth ≤ 64 ∧ Q (.bl (f (PyData.eqv d e))) H) ∨
  (∃ a b xs, x = .ref a ∧ y = .ref b ∧ SqT K H a xs ∧ SqT K H b [] ∧ Q (.bl (f xs.isEmpty)) H) ∨ (∃ a b xs, x = .ref a ∧ y = .ref b ∧ SqL K H a xs ∧ SqL K H b [] ∧ Q (.bl (f xs.isEmpty)) H)
theorem op_eqA {X : Cx} (hu : X.A.units + 64 < cLine) : OpR X (compareOp .Eq) (rEqA X.K fun b => b) := by
  intro pins s σ H x y v u Q I rx ry h
  rcases h with ⟨d, e, hd, he, cd, ce, hm, q⟩ | ⟨a, b, xs, rfl, rfl, ha, hb, q⟩ | ⟨a, b, xs, rfl, rfl, ha, hb, q⟩
  · obtain ⟨as, r1⟩ := Dp.reads I d x v hd rx
    obtain ⟨bs, r2⟩ := Dp.reads I e y u he ry
    exact SeqAt.compareEq_reads r1 r2 cd ce (by omega) ⟨.bl _, H, I, rfl, q⟩
  · cases rx
    cases ry
    obtain ⟨its, r1, p1, _⟩ := I.tuple ha
    obtain ⟨its2, r2, p2, _⟩ := I.tuple hb
    cases r2
    have hl := r1.length
    refine SeqAt.eq_tupleAt (e := fun _ => true) p1 p2 (by omega) (fun j h1 h2 => absurd h2 (by simp)) ⟨.bl _, H, I, ?_, q⟩
    show _ = Value.bool _
    congr 1
    cases xs with
    | nil => cases r1; rfl
    | cons z zs => cases r1; simp
  · cases rx
    cases ry
    obtain ⟨its, r1, p1, _⟩ := I.list ha
    obtain ⟨its2, r2, p2, _⟩ := I.list hb
    cases r2
    have hl := r1.length
    cases xs with
    | nil =>
      cases r1
      exact SeqAt.eq_listAt (e := fun _ => true) p1.isList p2.isList rfl (by omega) (fun j h1 h2 => absurd h2 (by simp)) ⟨.bl _, H, I, rfl, q⟩
    | cons z zs =>
      cases r1
      exact SeqAt.eq_list_lengthsAt p1.isList p2.isList (by simp) (by omega) ⟨.bl _, H, I, rfl, q⟩
theorem op_neA {X : Cx} (hu : X.A.units + 64 < cLine) : OpR X (compareOp .NotEq) (rEqA X.K fun b => !b) := by
  intro pins s σ H x y v u Q I rx ry h
  rcases h with ⟨d, e, hd, he, cd, ce, hm, q⟩ | ⟨a, b, xs, rfl, rfl, ha, hb, q⟩ | ⟨a, b, xs, rfl, rfl, ha, hb, q⟩
  · obtain ⟨as, r1⟩ := Dp.reads I d x v hd rx
    obtain ⟨bs, r2⟩ := Dp.reads I e y u he ry
    exact SeqAt.compareNe_reads r1 r2 cd ce (by omega) ⟨.bl _, H, I, rfl, q⟩
  · cases rx
    cases ry
    obtain ⟨its, r1, p1, _⟩ := I.tuple ha
    obtain ⟨its2, r2, p2, _⟩ := I.tuple hb
    cases r2
    refine SeqAt.RcNeAt.tuples (e := fun _ => true) p1 p2 (by omega) (fun j h1 h2 => absurd h2 (by simp)) _ _ _ _ ⟨.bl _, H, I, ?_, q⟩
    show _ = Value.bool _
    congr 1
    cases xs with
    | nil => cases r1; rfl
    | cons z zs => cases r1; simp
  · cases rx
    cases ry
    obtain ⟨its, r1, p1, _⟩ := I.list ha
    obtain ⟨its2, r2, p2, _⟩ := I.list hb
    cases r2
    cases xs with
    | nil =>
      cases r1
      exact SeqAt.RcNeAt.lists (e := fun _ => true) p1.isList p2.isList rfl (by omega) (fun j h1 h2 => absurd h2 (by simp)) _ _ _ _ ⟨.bl _, H, I, rfl, q⟩
    | cons z zs =>
      cases r1
      exact SeqAt.RcNeAt.lists_lengths p1.isList p2.isList (by simp) (by omega) _ _ _ _ ⟨.bl _, H, I, rfl, q⟩
theorem emp_inv {x y : D} {b : Bool} (h : emp x y = some b) : (∃ xs, x = .tup xs ∧ y = .tup [] ∧ b = xs.isEmpty) ∨ (∃ xs, x = .lst xs ∧ y = .lst [] ∧ b = xs.isEmpty) := by
  cases y with
  | tup ys => cases x with
    | tup xs => cases ys with
      | nil => cases h; exact .inl ⟨xs, rfl, rfl, rfl⟩
      | cons _ _ => cases h
    | _ => cases h
  | lst ys => cases x with
    | lst xs => cases ys with
      | nil => cases h; exact .inr ⟨xs, rfl, rfl, rfl⟩
      | cons _ _ => cases h
    | _ => cases h
  | _ => cases h
theorem s_eqf {K : PySem.W.Frag} {f : Bool → Bool} : SemO K (fun x y => (eqB x y).map fun b => .bl (f b)) (rEqA K f) := by
  intro c H v u x y z Q ho a b e k
  have e : (eqB x y).map (fun b => D.bl (f b)) = some z := e
  cases hq : eqB x y with
  | none => rw [hq] at e; cases e
  | some w =>
    rw [hq] at e
    cases e
    unfold eqB at hq
    cases he : emp x y with
    | some w' =>
      rw [he, Option.some_or] at hq
      cases hq
      have emp_bl : ∀ {xs : List V} {ds : List D}, AtL K c H xs ds → xs.isEmpty = ds.isEmpty := fun {xs ds} r => by cases r <;> rfl
      rcases emp_inv he with ⟨xs, rfl, rfl, rfl⟩ | ⟨xs, rfl, rfl, rfl⟩
      · cases a with
        | tup h l r =>
          cases b with
          | tup h2 l2 r2 =>
            cases r2
            exact .inr (.inl ⟨_, _, _, rfl, rfl, h.sq, h2.sq, k _ H (Step.refl ho.inv) (by rw [emp_bl r]; exact .bl _)⟩)
      · cases a with
        | lst h l r =>
          cases b with
          | lst h2 l2 r2 =>
            cases r2
            exact .inr (.inr ⟨_, _, _, rfl, rfl, h.sq, h2.sq, k _ H (Step.refl ho.inv) (by rw [emp_bl r]; exact .bl _)⟩)
    | none =>
      rw [he, Option.none_or] at hq
      split at hq
      · rename_i hc
        cases hq
        exact .inl ⟨_, _, a.dp hc.1, b.dp hc.2.1, a.lay hc.1, b.lay hc.2.1, hc.2.2, k _ H (Step.refl ho.inv) (.bl _)⟩
      · cases hq
theorem s_eq {K} : SemO K eqD (rEqA K fun b => b) := s_eqf
theorem s_ne {K} : SemO K neD (rEqA K fun b => !b) := s_eqf
theorem eqD_nil (ds : List D) : eqD (.tup ds) (.tup []) = some (.bl ds.isEmpty) := rfl
theorem neD_nil (ds : List D) : neD (.tup ds) (.tup []) = some (.bl !ds.isEmpty) := rfl
theorem eqD_nilL (ds : List D) : eqD (.lst ds) (.lst []) = some (.bl ds.isEmpty) := rfl
theorem neD_nilL (ds : List D) : neD (.lst ds) (.lst []) = some (.bl !ds.isEmpty) := rfl

/-! ### is -/
def isB (x y : D) : Option Bool := match y with
  | .non => some (match x with | .non => true | _ => false)
  | .bl b => some (match x with | .bl a => a == b | _ => false)
  | _ => none
def isD (x y : D) : Option D := (isB x y).map .bl
def isntD (x y : D) : Option D := (isB x y).map fun b => .bl (!b)
def vIs (x y : V) : Option Bool := match y with
  | .non => some (match x with | .non => true | _ => false)
  | .bl b => some (match x with | .bl a => a == b | _ => false)
  | _ => none
def rIs (f : Bool → Bool) : R2 := fun x y H Q => ∃ b, vIs x y = some b ∧ Q (.bl (f b)) H
theorem is_same {M : Model} {A : Around} {E : Value → Shared → Prop} {s : Shared} {x y : V} {v u : Value} {b : Bool} {Q : Bool → Shared → Prop} (rx : RelV x v) (ry : RelV y u) (e : vIs x y = some b) (h : Q b s) : wpAny M A (isSame v u) Q E s := by
  cases y with
  | non =>
    cases ry
    cases e
    cases x with
    | non => cases rx; exact wpAny_pure h
    | bl a => cases rx; exact wpAny_pure h
    | int a => obtain ⟨t, rfl⟩ := rx; exact wpAny_pure h
    | str a => obtain ⟨t, rfl⟩ := rx; exact wpAny_pure h
    | byt a => obtain ⟨t, rfl⟩ := rx; exact wpAny_pure h
    | flt a => obtain ⟨t, rfl⟩ := rx; exact wpAny_pure h
    | ref a => cases rx; exact wpAny_pure h
    | ty a => cases rx; exact wpAny_pure h
  | bl b =>
    cases ry
    cases e
    cases x with
    | non => cases rx; exact wpAny_pure h
    | bl a =>
      cases rx
      refine wpAny_pure ?_
      have e : (Value.bool a == Value.bool b) = (a == b) := by cases a <;> cases b <;> rfl
      rw [e]
      exact h
    | int a => obtain ⟨t, rfl⟩ := rx; exact wpAny_pure h
    | str a => obtain ⟨t, rfl⟩ := rx; exact wpAny_pure h
    | byt a => obtain ⟨t, rfl⟩ := rx; exact wpAny_pure h
    | flt a => obtain ⟨t, rfl⟩ := rx; exact wpAny_pure h
    | ref a => cases rx; exact wpAny_pure h
    | ty a => cases rx; exact wpAny_pure h
  | _ => cases e
theorem op_isA {X : Cx} : OpR X (compareOp .Is) (rIs fun b => b) := by
  intro pins s σ H x y v u Q I rx ry ⟨b, e, q⟩
  show wpAny _ _ (do let r ← isSame v u; pure (Value.bool r)) _ _ s
  exact wpAny_bind (is_same rx ry e (wpAny_pure ⟨.bl _, H, I, rfl, q⟩))
theorem op_isntA {X : Cx} : OpR X (compareOp .IsNot) (rIs fun b => !b) := by
  intro pins s σ H x y v u Q I rx ry ⟨b, e, q⟩
  show wpAny _ _ (do let r ← isSame v u; pure (Value.bool (!r))) _ _ s
  exact wpAny_bind (is_same rx ry e (wpAny_pure ⟨.bl _, H, I, rfl, q⟩))
theorem vIs_at {K : PySem.W.Frag} {c : Co} {H : Hp} {x y : D} {v u : V} {b : Bool} (a : At K c H v x) (a' : At K c H u y) (e : isB x y = some b) : vIs v u = some b := by
  cases a' with
  | non => cases e; cases a <;> rfl
  | bl b => cases e; cases a <;> rfl
  | _ => cases e
theorem s_isf {K : PySem.W.Frag} {f : Bool → Bool} : SemO K (fun x y => (isB x y).map fun b => .bl (f b)) (rIs f) := by
  intro c H v u x y z Q ho a b e k
  have e : (isB x y).map (fun b => D.bl (f b)) = some z := e
  cases hq : isB x y with
  | none => rw [hq] at e; cases e
  | some w =>
    rw [hq] at e
    cases e
    exact ⟨w, vIs_at a b hq, k _ H (Step.refl ho.inv) (.bl _)⟩
theorem s_is {K} : SemO K isD (rIs fun b => b) := s_isf
theorem s_isnt {K} : SemO K isntD (rIs fun b => !b) := s_isf

/-! ### isinstance, len, list, tuple, all, any -/
def tyN : D → Option String
  | .non => some "NoneType"
  | .bl _ => some "bool"
  | .int _ => some "int"
  | .str _ => some "str"
  | .tup _ => some "tuple"
  | .lst _ => some "list"
  | .dic _ _ => some "dict"
  | .st => some "dict"
  | .err _ _ _ => none
theorem At.tyx {K : PySem.W.Frag} {c : Co} {H : Hp} {v : V} {d : D} {t : String} (ho : Ho c H) (a : At K c H v d) (e : tyN d = some t) : TyX K H v (.type t) := by
  cases a with
  | non => cases e; exact .base .non
  | bl b => cases e; exact .base (.bl b)
  | int b => cases e; exact .base (.int b)
  | str b => cases e; exact .base (.str b)
  | tup h l r =>
    cases e
    rcases h with ⟨h | ⟨o, h⟩, _⟩ | ⟨o, its, n, h, hc, _⟩
    · exact .base (.tup h)
    · exact .fTuple h
    · exact .kTuple h hc
  | lst h l r =>
    cases e
    rcases h with ⟨h | ⟨o, h⟩, _⟩ | ⟨o, its, n, h, hc, _⟩
    · exact .base (.lst h)
    · exact .base (.frz h)
    · exact .kList h hc
  | dic h l r =>
    cases e
    rcases h with ⟨h | ⟨o, h⟩, _⟩
    · exact .base (.dK h)
    · exact .fDict h
  | st =>
    cases e
    obtain ⟨g, cl, l, t, h, _⟩ := ho.inv
    exact .base (.dK h)
  | err _ _ _ _ _ => cases e
def lenD : List D → Option D
  | [.str z] => some (.int z.length)
  | [.tup ds] => some (.int ds.length)
  | [.lst ds] => some (.int ds.length)
  | _ => none
theorem s_len {K : PySem.W.Frag} : SemC K lenD (fun xs H Q => ∃ x n, xs = [x] ∧ LenV K x H n ∧ Q (.int n) H) := by
  intro c H vs ds z Q ho a e k
  match ds, a, e with
  | [.str z], .cons (.str _ hz) .nil, e =>
    cases e
    exact ⟨_, z.length, rfl, ⟨hz.1, rfl⟩, k _ H (Step.refl ho.inv) (.int _)⟩
  | [.tup ds], .cons (.tup h l r) .nil, e =>
    cases e
    exact ⟨_, ds.length, rfl, .inr ⟨_, h.sq, r.length.symm⟩, k _ H (Step.refl ho.inv) (.int _)⟩
  | [.lst ds], .cons (.lst h l r) .nil, e =>
    cases e
    exact ⟨_, ds.length, rfl, .inl ⟨_, h.sq, r.length.symm⟩, k _ H (Step.refl ho.inv) (.int _)⟩
def toL : List D → Option D
  | [.tup ds] => some (.lst ds)
  | [.lst ds] => some (.lst ds)
  | _ => none
theorem s_toL {K : PySem.W.Frag} : SemC K toL (fun xs H Q => ∃ p ys, xs = [.ref p] ∧ (SqL K H p ys ∨ SqT K H p ys) ∧ ∀ l, H l = none → Q (.ref l) (upd H l (.lst ys))) := by
  intro c H vs ds z Q ho a e k
  match ds, a, e with
  | [.tup ds], .cons (.tup h l r) .nil, e =>
    cases e
    exact ⟨_, _, rfl, .inr h.sq, fun p hp => k _ _ (ho.new hp) (ho.lst hp l r)⟩
  | [.lst ds], .cons (.lst h l r) .nil, e =>
    cases e
    exact ⟨_, _, rfl, .inl h.sq, fun p hp => k _ _ (ho.new hp) (ho.lst hp l r)⟩
def toT : List D → Option D
  | [.tup ds] => some (.tup ds)
  | [.lst ds] => some (.tup ds)
  | _ => none
theorem s_toT {K : PySem.W.Frag} : SemC K toT (fun xs H Q => ∃ p ys, xs = [.ref p] ∧ ((SqL K H p ys ∧ ∀ l, H l = none → Q (.ref l) (upd H l (.tup ys))) ∨ (SqT K H p ys ∧ Q (.ref p) H))) := by
  intro c H vs ds z Q ho a e k
  match ds, a, e with
  | [.tup ds], .cons (.tup h l r) .nil, e =>
    cases e
    exact ⟨_, _, rfl, .inr ⟨h.sq, k _ _ (Step.refl ho.inv) (.tup h l r)⟩⟩
  | [.lst ds], .cons (.lst h l r) .nil, e =>
    cases e
    exact ⟨_, _, rfl, .inl ⟨h.sq, fun p hp => k _ _ (ho.new hp) (ho.tup hp l r)⟩⟩
/-- the bools of a list of bools -/
def bls : List D → Option (List Bool)
  | [] => some []
  | .bl b :: r => (bls r).map (b :: ·)
  | _ :: _ => none
theorem bls_inv : ∀ {ds : List D} {bs : List Bool}, bls ds = some bs → ds = bs.map .bl
  | [], _, h => by cases h; rfl
  | .bl b :: r, bs, h => by
    have h : (bls r).map (b :: ·) = some bs := h
    cases q : bls r with
    | none => rw [q] at h; cases h
    | some x => rw [q] at h; cases h; rw [List.map_cons, bls_inv q]
theorem bls_map (bs : List Bool) : bls (bs.map .bl) = some bs := by
  induction bs with
  | nil => rfl
  | cons b r ih => show (bls (r.map .bl)).map (b :: ·) = _; rw [ih]; rfl
def allD : List D → Option D
  | [.lst ds] => (bls ds).map fun bs => .bl (bs.all id)
  | _ => none
def anyD : List D → Option D
  | [.lst ds] => (bls ds).map fun bs => .bl (bs.any id)
  | _ => none
theorem s_all {K : PySem.W.Frag} : SemC K allD (rAll K) := by
  intro c H vs ds z Q ho a e k
  match ds, a, e with
  | [.lst ds], .cons (.lst h l r) .nil, e =>
    have e : (bls ds).map (fun bs => D.bl (bs.all id)) = some _ := e
    cases q : bls ds with
    | none => rw [q] at e; cases e
    | some bs =>
      rw [q] at e
      cases e
      rw [bls_inv q] at r
      exact ⟨_, bs, rfl, by rw [← r.bls]; exact h.sq, k _ H (Step.refl ho.inv) (.bl _)⟩
theorem s_any {K : PySem.W.Frag} : SemC K anyD (rAny K) := by
  intro c H vs ds z Q ho a e k
  match ds, a, e with
  | [.lst ds], .cons (.lst h l r) .nil, e =>
    have e : (bls ds).map (fun bs => D.bl (bs.any id)) = some _ := e
    cases q : bls ds with
    | none => rw [q] at e; cases e
    | some bs =>
      rw [q] at e
      cases e
      rw [bls_inv q] at r
      exact ⟨_, bs, rfl, by rw [← r.bls]; exact h.sq, k _ H (Step.refl ho.inv) (.bl _)⟩

/-! ### a[i], a[i:j], + -/
def ixD (x y : D) : Option D := match y with
  | .int i => match x with
    | .tup ds => atI ds i
    | .lst ds => atI ds i
    | .str z => (atI z.cps.toList i).map fun c => .str ⟨#[c]⟩
    | _ => none
  | _ => none
theorem AtL.atI {K : PySem.W.Frag} {c : Co} {H : Hp} {ds : List D} {vs : List V} {i : Int} {d : D} (a : AtL K c H vs ds) (e : atI ds i = some d) : ∃ v, L2.atI vs i = some v ∧ At K c H v d := by
  unfold L2.atI at e ⊢
  rw [a.length]
  cases q : ixN ds.length i with
  | none => rw [q] at e; cases e
  | some j =>
    rw [q] at e
    obtain ⟨v, e1, a1⟩ := a.some_of (show ds[j]? = some d from e)
    exact ⟨v, e1, a1⟩
theorem s_ix {K : PySem.W.Frag} : SemO K ixD (rIx K) := by
  intro c H v u x y z Q ho a b e k
  cases b with
  | int i =>
    cases a with
    | tup h l r =>
      obtain ⟨w, e1, a1⟩ := r.atI (show atI _ i = some z from e)
      exact .inr (.inl ⟨_, _, i, w, rfl, rfl, h.sq, e1, k _ H (Step.refl ho.inv) a1⟩)
    | lst h l r =>
      obtain ⟨w, e1, a1⟩ := r.atI (show atI _ i = some z from e)
      exact .inl ⟨_, _, i, w, rfl, rfl, h.sq, e1, k _ H (Step.refl ho.inv) a1⟩
    | str w hw =>
      have e : (L2.atI w.cps.toList i).map (fun c => D.str ⟨#[c]⟩) = some z := e
      cases q : L2.atI w.cps.toList i with
      | none => rw [q] at e; cases e
      | some ch =>
        rw [q] at e
        cases e
        refine .inr (.inr ⟨w, i, ch, rfl, rfl, hw.1, q, k _ H (Step.refl ho.inv) (.str _ (sok_sign hw ?_))⟩)
        unfold L2.atI at q
        cases q2 : ixN w.cps.toList.length i with
        | none => rw [q2] at q; cases q
        | some j => rw [q2] at q; exact List.mem_of_getElem? q
    | _ => cases e
  | _ => cases e
theorem de_ix {g : G} {a b : Expr} {ma mb : WE} {pos : Pos} (ha : DE g a ma) (hb : DE g b mb) (hs : PlainIx b := by intro _ _; rfl) : DE g (.Subscript a b pos) (eOp ixD ma mb) := by
  obtain ⟨ta, pa⟩ := ha
  obtain ⟨tb, pb⟩ := hb
  exact ⟨fun E => tOp (rIx g.K) (ta E) (tb E), fun y ok => ⟨pe_ix ix_seq (pa y ok).1 (pb y ok).1 hs, sem_op s_ix (pa y ok).2 (pb y ok).2⟩⟩
def cutL {α : Type} (xs : List α) (lo hi : Option Int) : List α := (xs.drop (HT.sIx xs.length 0 lo)).take (HT.sIx xs.length xs.length hi - HT.sIx xs.length 0 lo)
def slD (x : D) (lo hi : Option Int) : Option D := match x with
  | .tup ds => some (.tup (cutL ds lo hi))
  | .lst ds => some (.lst (cutL ds lo hi))
  | .str z => some (.str (cutS z lo hi))
  | _ => none
structure WO where
  f : Env → (Option Int → Prop) → Prop
  n : Nat
instance : CoeFun WO fun _ => Env → (Option Int → Prop) → Prop := ⟨WO.f⟩
def oNo : WO := ⟨fun _ R => R none, 0⟩
def oYes (m : WE) : WO := ⟨fun r R => m r fun d => ∃ i, d = .int i ∧ R (some i), m.n⟩
def SemP (K : PySem.W.Frag) (E : EX) (m : WO) (t : TO) : Prop := ∀ B c0 c ad H0 s H r R Q, Cf K B c0 c ad H0 E s H r → trn c.sd H + m.n ≤ B → m r R → (∀ o H', R o → Step m.n c H H' → Q o H') → t s H Q
def DO (g : G) (e : Option Expr) (m : WO) : Prop := ∃ t : EX → TO, ∀ y, g.Ok y → PO (g.cx y) e (t y.E) ∧ SemP g.K y.E m (t y.E)
theorem do_none {g : G} : DO g none oNo := ⟨fun _ => tNoPart, fun y ok => ⟨po_none, fun B c0 c ad H0 s H r R Q cf bd hm k => k none H hm (Step.refl cf.inv)⟩⟩
theorem do_some {g : G} {e : Expr} {m : WE} (h : DE g e m) : DO g (some e) (oYes m) := by
  obtain ⟨t, p⟩ := h
  refine ⟨fun E => tPart (t E), fun y ok => ⟨po_some (p y ok).1, ?_⟩⟩
  intro B c0 c ad H0 s H rr R Q cf bd hm k
  refine (p y ok).2 B c0 c ad H0 s H rr _ _ cf bd hm fun x v H1 hx s1 a1 => ?_
  obtain ⟨i, rfl, hR⟩ := hx
  cases a1
  exact ⟨i, rfl, k _ H1 hR s1⟩
def eSl (a : WE) (lo hi : WO) : WE := ⟨fun r R => a r fun x => lo r fun l => hi r fun h => ∃ z, slD x l h = some z ∧ R z, a.n + lo.n + hi.n⟩
def rSlAny (K : PySem.W.Frag) : V → Option Int → Option Int → Hp → VK → Prop := fun x lo hi H Q => rSlL K x lo hi H Q ∨ rSlA K x lo hi H Q ∨ rSlS x lo hi H Q
theorem sok_cut {w : Str} (h : SOk w) {lo hi : Option Int} : SOk (cutS w lo hi) := by
  have e : (cutS w lo hi).cps.toList = (w.cps.toList.drop (HT.sIx w.length 0 lo)).take (HT.sIx w.length w.length hi - HT.sIx w.length 0 lo) := rfl
  refine sok_sub h ?_ fun c hc => ?_
  · show (cutS w lo hi).cps.size ≤ w.cps.size
    rw [← Array.length_toList, ← Array.length_toList, e, List.length_take, List.length_drop]
    omega
  · rw [e] at hc
    exact List.mem_of_mem_drop (List.mem_of_mem_take hc)
theorem s_sl {K : PySem.W.Frag} {c : Co} {H : Hp} {v : V} {x z : D} {lo hi : Option Int} {Q : VK} (ho : Ho c H) (a : At K c H v x) (e : slD x lo hi = some z) (k : ∀ v' H', Step 0 c H H' → At K c H' v' z → Q v' H') : rSlAny K v lo hi H Q := by
  have cut : ∀ {xs : List V} {ds : List D}, AtL K c H xs ds → AtL K c H (cutV xs lo hi) (cutL ds lo hi) := fun {xs ds} r => by
    unfold cutV cutL
    rw [r.length]
    exact (r.drop _).take _
  cases a with
  | @tup _ xs ds h l r =>
    cases e
    refine .inr (.inl ⟨_, _, rfl, h.sq, fun hw => ?_, fun _ p hp => ?_⟩)
    · refine k _ H (Step.refl ho.inv) ?_
      have : cutL ds lo hi = ds := by
        unfold cutL
        rw [← r.length, hw.1, hw.2, List.drop_zero, Nat.sub_zero, r.length, List.take_length]
      rw [this]
      exact .tup h l r
    · exact k _ _ (ho.new hp) (ho.tup hp (Nat.le_trans (cutV_length _ _ _) l) (cut r))
  | lst h l r =>
    cases e
    exact .inl ⟨_, _, rfl, h.sq, fun p hp => k _ _ (ho.new hp) (ho.lst hp (Nat.le_trans (cutV_length _ _ _) l) (cut r))⟩
  | str w hw =>
    cases e
    exact .inr (.inr ⟨w, rfl, hw.1, k _ H (Step.refl ho.inv) (.str _ (sok_cut hw))⟩)
  | _ => cases e
theorem de_sl {g : G} {a : Expr} {lo hi : Option Expr} {ma : WE} {ml mh : WO} {p2 pos : Pos} (ha : DE g a ma) (hl : DO g lo ml) (hh : DO g hi mh) : DE g (.Subscript a (.Slice lo hi none p2) pos) (eSl ma ml mh) := by
  obtain ⟨ta, pa⟩ := ha
  obtain ⟨tl, pl⟩ := hl
  obtain ⟨th, ph⟩ := hh
  refine ⟨fun E => tSl (rSlAny g.K) (ta E) (tl E) (th E), fun y ok => ⟨pe_slice (sl_list.or (sl_tupA.or sl_str)) (pa y ok).1 (pl y ok).1 (ph y ok).1, ?_⟩⟩
  intro B c0 c ad H0 s H rr R Q cf bd hm k
  refine (pa y ok).2 B c0 c ad H0 s H rr _ _ cf (bd1 (bd1 bd)) hm fun x v H1 hx s1 a1 => ?_
  have cf1 := cf.step s1
  refine (pl y ok).2 B c0 c ad H0 s H1 rr _ _ cf1 (bd2 (bd1 bd) s1.3) hx fun l H2 hx2 s2 => ?_
  have cf2 := cf1.step s2
  refine (ph y ok).2 B c0 c ad H0 s H2 rr _ _ cf2 (bd3 bd s1.3 s2.3) hx2 fun h H3 hx3 s3 => ?_
  have cf3 := cf2.step s3
  obtain ⟨z, e, hR⟩ := hx3
  exact s_sl cf3.ho ((a1.evo (cf1.evo s2)).evo (cf2.evo s3)) e fun v' H' s4 a4 => k z v' H' hR (((s1.trans s2).trans s3).trans s4) a4
/-- list + list, whatever they are -/
def rCatS (K : PySem.W.Frag) : R2 := fun x y H Q => ∃ l b xs zs, x = .ref l ∧ y = .ref b ∧ SqL K H l xs ∧ SqL K H b zs ∧ xs.length + zs.length ≤ sizeLine ∧ ∀ p, H p = none → Q (.ref p) (upd H p (.lst (xs ++ zs)))
theorem op_catS {X : Cx} : OpR X (binaryOp .Add) (rCatS X.K) := by
  intro pins s σ H x y v u Q I rx ry h
  obtain ⟨l, b, xs, zs, rfl, rfl, hH, hB, hz, q⟩ := h
  cases rx
  cases ry
  obtain ⟨its, r, ⟨⟨cls, dd, data, sl⟩, n, ho, hc, hd, hdat⟩, _⟩ := I.list hH
  obtain ⟨its2, r2, ⟨⟨cls2, dd2, data2, sl2⟩, n2, ho2, hc2, hd2, hdat2⟩, _⟩ := I.list hB
  simp only at hc hd hdat hc2 hd2 hdat2
  subst hc hd hdat hc2 hd2 hdat2
  have hl := r.length
  have hl2 := r2.length
  have e : its.toArray ++ its2.toArray = (its ++ its2).toArray := by simp
  refine concat_meets ⟨_, ho, rfl⟩ ⟨_, ho2, rfl⟩ noFill_list_add seq_list_add PySem.F.slot_list_add PySem.F.entry_list_add (PySem.F.args_list_add_2 _ _) (list_addW l b its.toArray its2.toArray n n2 none none sl sl2 (by simp only [List.size_toArray]; omega)) ⟨ho, ho2, ?_⟩
  rw [e]
  exact ⟨.ref _, _, I.lnew (t' := s.toks) (r.append r2) (by rw [List.length_append]; omega), rfl, q _ I.fresh⟩
def addI : D → D → Option D := i2 fun i j => some (.int (i + j))
def addS (x y : D) : Option D := match x with
  | .str a => match y with
    | .str b => if a.length + b.length ≤ sizeLine then some (.str (a ++ b)) else none
    | _ => none
  | _ => none
def addT (x y : D) : Option D := match x with
  | .tup a => match y with
    | .tup b => if a.length + b.length ≤ sizeLine then some (.tup (a ++ b)) else none
    | _ => none
  | _ => none
def addL (x y : D) : Option D := match x with
  | .lst a => match y with
    | .lst b => if a.length + b.length ≤ sizeLine then some (.lst (a ++ b)) else none
    | _ => none
  | _ => none
def addD (x y : D) : Option D := (addI x y).or ((addS x y).or ((addT x y).or (addL x y)))
def rAddA (K : PySem.W.Frag) : R2 := fun x y H Q => rI0 (fun i j => .int (i + j)) x y H Q ∨ (∃ i j, x = .str i ∧ y = .str j ∧ i.length + j.length ≤ sizeLine ∧ Q (.str (i ++ j)) H) ∨ rCatA K x y H Q ∨ rCatS K x y H Q
theorem op_addA {X : Cx} : OpR X (binaryOp .Add) (rAddA X.K) := op_add.or (op_add_str.or (op_catA.or op_catS))
theorem s_add {K : PySem.W.Frag} : SemO K addD (rAddA K) := by
  have h1 : SemO K addS (fun x y H Q => ∃ i j, x = .str i ∧ y = .str j ∧ i.length + j.length ≤ sizeLine ∧ Q (.str (i ++ j)) H) := by
    intro c H v u x y z Q ho a b e k
    cases a with
    | str i hi => cases b with
      | str j hj =>
        have e : (if i.length + j.length ≤ sizeLine then some (D.str (i ++ j)) else none) = some z := e
        split at e
        · rename_i hl
          cases e
          exact ⟨i, j, rfl, rfl, hl, k _ H (Step.refl ho.inv) (.str _ (sok_append hi hj hl))⟩
        · cases e
      | _ => cases e
    | _ => cases e
  have h2 : SemO K addT (rCatA K) := by
    intro c H v u x y z Q ho a b e k
    cases a with
    | @tup _ xs ds h l r => cases b with
      | @tup _ ys es h2 l2 r2 =>
        have e : (if ds.length + es.length ≤ sizeLine then some (D.tup (ds ++ es)) else none) = some z := e
        split at e
        · rename_i hl
          cases e
          refine ⟨_, _, xs, ys, rfl, rfl, h.sq, h2.sq, by rw [r.length, r2.length]; exact hl, fun q => ?_, fun _ q => ?_, fun _ _ p hp => ?_⟩
          · subst q
            cases r
            exact k _ H (Step.refl ho.inv) (.tup h2 l2 r2)
          · subst q
            cases r2
            rw [List.append_nil] at k
            exact k _ H (Step.refl ho.inv) (.tup h l r)
          · exact k _ _ (ho.new hp) (ho.tup hp (by rw [List.length_append, r.length, r2.length]; exact hl) (r.append r2))
        · cases e
      | _ => cases e
    | _ => cases e
  have h3 : SemO K addL (rCatS K) := by
    intro c H v u x y z Q ho a b e k
    cases a with
    | @lst _ xs ds h l r => cases b with
      | @lst _ ys es h2 l2 r2 =>
        have e : (if ds.length + es.length ≤ sizeLine then some (D.lst (ds ++ es)) else none) = some z := e
        split at e
        · rename_i hl
          cases e
          exact ⟨_, _, xs, ys, rfl, rfl, h.sq, h2.sq, by rw [r.length, r2.length]; exact hl, fun p hp => k _ _ (ho.new hp) (ho.lst hp (by rw [List.length_append, r.length, r2.length]; exact hl) (r.append r2))⟩
        · cases e
      | _ => cases e
    | _ => cases e
  exact sem_i0.or (h1.or (h2.or h3))
end DS
/-! DS6: a def's own lists and dicts; calls by keywords. -/
namespace DS
open PySem PySem.Spec PyProof.Rows L2

/-! ### own lists and dicts -/
def Env.at (r : Env) (i : Nat) (x : Sl) : Env := { r with sl := r.sl.set i x }
section
variable {K : PySem.W.Frag} {B : Nat} {c0 c : Co} {ad : Nat → Addr} {H0 H H' : Hp} {E : EX} {s : L2.St} {r : Env} {i : Nat} {p : Addr} {x x' : Sl}
/-- a new object lies apart from all that is in the slots -/
structure Apart (c : Co) (ad : Nat → Addr) (H0 : Hp) (r : Env) (p : Addr) : Prop where
  h0 : Fr H0 p
  n1 : p ≠ c.sd
  n2 : p ≠ c.sg
  n3 : p ≠ c.sl
  ne : ∀ j z, r.sl[j]? = some z → z.own → ad j ≠ p
/-- what is free now was free at the entry -/
theorem Cf.freeR (h : Cf K B c0 c ad H0 E s H r) (hp : Fr H p) : Fr H0 p := by
  intro o e t
  obtain ⟨g, cl, l, tn, z1, z2, z3, _⟩ := h.inv
  by_cases e1 : p = c0.sd
  · exact hp.ne z1 nTK (h.sd.trans e1.symm)
  · by_cases e2 : p = c0.sg
    · exact hp.ne z2 nTL (h.sg.trans e2.symm)
    · exact hp o (h.st.2 p o e e1 e2 t) t
theorem Cf.isApart (h : Cf K B c0 c ad H0 E s H r) (hp : Fr H p) : Apart c ad H0 r p := by
  obtain ⟨g, cl, l, t, z1, z2, z3, _⟩ := h.inv
  refine ⟨h.freeR hp, (hp.ne z1 nTK).symm, (hp.ne z2 nTL).symm, (hp.ne z3 nTL).symm, fun j z e o w => ?_⟩
  obtain ⟨u, e1, t1⟩ := h.dom _ (h.own j z e o).1
  exact hp.ne e1 t1 w
theorem Cf.evoApart {n : Nat} (h : Cf K B c0 c ad H0 E s H r) (hp : Fr H p) (q : Step n c H H') : Evo c H (c.with p) H' :=
  ⟨rfl, fun b o e t n => ⟨q.2 b o e (fun z => n (z ▸ h.osd)) (fun z => n (z ▸ h.osg)) t, fun z => z.elim n fun z => hp.ne e t z⟩⟩
theorem Cf.apart {n : Nat} (h : Cf K B c0 c ad H0 E s H r) (hp : Fr H p) (q : Step n c H H') {u : HO} (hu : H' p = some u ∧ nT u) : Cf K B c0 (c.with p) ad H0 E s H' r := by
  have ev := h.evoApart hp q
  have h1 := h.step q
  exact { sd := h.sd, sg := h.sg, scl := h.scl, sT := h.sT, tT := h.tT, dom0 := h.dom0, le := fun b hb => .inl (h.le b hb), st := h1.st, osd := .inl h.osd, osg := .inl h.osg, ex := h.ex, top := h.top, inj := h.inj, len := h.len
          dom := fun b hb => hb.elim (h1.dom b) fun z => ⟨u, by rw [z]; exact hu⟩
          own := fun j z e o => ⟨.inl (h.own j z e o).1, (h.own j z e o).2⟩
          sl := fun j z e => (h.sl j z e).evo ev fun o u w t => q.2 _ _ w (h.own j z e o).2.2.1 (h.own j z e o).2.2.2.1 t }
/-- it is kept in slot i -/
theorem Cf.settle (h : Cf K B c0 (c.with p) ad H0 E s H r) (ap : Apart c ad H0 r p) (hi : i < r.sl.length) (ho : x.own) (ob : ObAt K (c.with p) H p x) :
    Cf K B c0 (c.with p) (fun j => if j = i then p else ad j) H0 E (s.set i (some (.ref p))) H (r.at i x) := by
  refine { sd := h.sd, sg := h.sg, scl := h.scl, sT := h.sT, tT := h.tT, dom0 := h.dom0, le := h.le, st := h.st, osd := h.osd, osg := h.osg, ex := h.ex, top := h.top, dom := h.dom, own := ?_, inj := ?_, sl := ?_, len := ?_ }
  · intro j z e o
    rw [show (r.at i x).sl = r.sl.set i x from rfl, List.getElem?_set] at e
    by_cases hij : i = j
    · subst hij
      show (c.with p).O (if i = i then p else ad i) ∧ Fr H0 (if i = i then p else ad i) ∧ (if i = i then p else ad i) ≠ _ ∧ (if i = i then p else ad i) ≠ _ ∧ (if i = i then p else ad i) ≠ _
      rw [if_pos rfl]
      exact ⟨.inr rfl, ap.h0, ap.n1, ap.n2, ap.n3⟩
    · rw [if_neg hij] at e
      show (c.with p).O (if j = i then p else ad j) ∧ Fr H0 (if j = i then p else ad j) ∧ (if j = i then p else ad j) ≠ _ ∧ (if j = i then p else ad j) ≠ _ ∧ (if j = i then p else ad j) ≠ _
      rw [if_neg (Ne.symm hij)]
      exact h.own j z e o
  · intro j l z w e e2 o o2 w2
    rw [show (r.at i x).sl = r.sl.set i x from rfl, List.getElem?_set] at e e2
    have w2 : (if j = i then p else ad j) = (if l = i then p else ad l) := w2
    by_cases hj : i = j
    · by_cases hl : i = l
      · rw [← hj, ← hl]
      · rw [if_neg hl] at e2
        rw [if_pos hj.symm, if_neg (Ne.symm hl)] at w2
        exact absurd w2.symm (ap.ne l w e2 o2)
    · rw [if_neg hj] at e
      by_cases hl : i = l
      · rw [if_neg (Ne.symm hj), if_pos hl.symm] at w2
        exact absurd w2 (ap.ne j z e o)
      · rw [if_neg hl] at e2
        rw [if_neg (Ne.symm hj), if_neg (Ne.symm hl)] at w2
        exact h.inj j l z w e e2 o o2 w2
  · intro j z e
    rw [show (r.at i x).sl = r.sl.set i x from rfl, List.getElem?_set] at e
    by_cases hij : i = j
    · subst hij
      rw [if_pos rfl, if_pos hi] at e
      cases e
      show SlAt K _ _ (if i = i then p else ad i) _ _
      rw [if_pos rfl, List.getElem?_set, if_pos rfl, if_pos (by rw [h.len]; exact hi)]
      refine ⟨fun _ => ⟨rfl, ob⟩, fun d w => ?_⟩
      subst w
      exact ho.elim
    · rw [if_neg hij] at e
      show SlAt K _ _ (if j = i then p else ad j) _ _
      rw [if_neg (Ne.symm hij), List.getElem?_set, if_neg hij]
      exact h.sl j z e
  · show (s.set i _).length = (r.sl.set i x).length
    rw [List.length_set, List.length_set]
    exact h.len
theorem Cf.take {n : Nat} (h : Cf K B c0 c ad H0 E s H r) (hi : i < r.sl.length) (ho : x.own) (hp : Fr H p) (q : Step n c H H') (ob : ObAt K (c.with p) H' p x) :
    Cf K B c0 (c.with p) (fun j => if j = i then p else ad j) H0 E (s.set i (some (.ref p))) H' (r.at i x) ∧ Evo c H (c.with p) H' := by
  obtain ⟨u, hu⟩ := ob.dom ho
  exact ⟨(h.apart hp q hu).settle (h.isApart hp) hi ho ob, h.evoApart hp q⟩
/-- slot i's object is changed -/
theorem Cf.mut (h : Cf K B c0 c ad H0 E s H r) (e : r.sl[i]? = some x) (ho : x.own) (ho' : x'.own) {o' : HO} (to : nT o') (ob : ObAt K c (upd H (ad i) o') (ad i) x') : Cf K B c0 c ad H0 E s (upd H (ad i) o') (r.at i x') ∧ Evo c H c (upd H (ad i) o') := by
  obtain ⟨hO, h0, n1, n2, n3⟩ := h.own i x e ho
  have ev : Evo c H c (upd H (ad i) o') := ⟨rfl, fun b u e _ n => ⟨by rw [upd_ne (show b ≠ ad i from fun z => n (by rw [z]; exact hO))]; exact e, n⟩⟩
  refine ⟨{ sd := h.sd, sg := h.sg, scl := h.scl, sT := h.sT, tT := h.tT, dom0 := h.dom0, le := h.le, osd := h.osd, osg := h.osg, ex := h.ex, top := h.top, st := ?_, dom := ?_, own := ?_, inj := ?_, sl := ?_, len := ?_ }, ev⟩
  · obtain ⟨⟨g, cl, l, t, e1, e2, e3, q1, q2, q3, q4, q5, q6⟩, k⟩ := h.st
    have tt : LamX.Tabs c0.T (upd H (ad i) o') := by
      have ob0 := ((h.sl i x e).1 ho).2
      cases x with
      | un => exact ho.elim
      | sh d => exact ho.elim
      | ol ds => obtain ⟨xs, w, _⟩ := ob0; exact tabs_upd q6 w nTL nCL
      | ok ds => obtain ⟨xs, w, _⟩ := ob0; exact tabs_upd q6 w nTK nCK
      | ot ds => obtain ⟨xs, w, _⟩ := ob0; exact tabs_upd q6 w nTD nCD
    have m1 : c0.sd ≠ ad i := by rw [← h.sd]; exact n1.symm
    have m2 : c0.sg ≠ ad i := by rw [← h.sg]; exact n2.symm
    have m3 : c0.sl ≠ ad i := by rw [← h.scl]; exact n3.symm
    refine ⟨⟨g, cl, l, t, by rw [upd_ne m1]; exact e1, by rw [upd_ne m2]; exact e2, by rw [upd_ne m3]; exact e3, q1, q2, q3, q4, q5, tt⟩, fun b u e m1 m2 mt => ?_⟩
    rw [upd_ne (h0.ne e mt)]
    exact k b u e m1 m2 mt
  · intro b hb
    by_cases e : b = ad i
    · exact ⟨o', by rw [e]; exact upd_same, to⟩
    · rw [upd_ne e]; exact h.dom b hb
  · intro j z e2 o
    rw [show (r.at i x').sl = r.sl.set i x' from rfl, List.getElem?_set] at e2
    by_cases hij : i = j
    · subst hij; exact h.own i x e ho
    · rw [if_neg hij] at e2; exact h.own j z e2 o
  · intro j l z w e2 e3 o o2 w2
    rw [show (r.at i x').sl = r.sl.set i x' from rfl, List.getElem?_set] at e2 e3
    by_cases hj : i = j
    · subst hj
      by_cases hl : i = l
      · exact hl
      · rw [if_neg hl] at e3; exact h.inj i l x w e e3 ho o2 w2
    · rw [if_neg hj] at e2
      by_cases hl : i = l
      · subst hl; exact h.inj j i z x e2 e o ho w2
      · rw [if_neg hl] at e3; exact h.inj j l z w e2 e3 o o2 w2
  · intro j z e2
    rw [show (r.at i x').sl = r.sl.set i x' from rfl, List.getElem?_set] at e2
    by_cases hij : i = j
    · subst hij
      rw [if_pos rfl] at e2
      split at e2
      · cases e2
        refine ⟨fun _ => ⟨((h.sl i x e).1 ho).1, ob⟩, fun d w => ?_⟩
        subst w
        exact ho'.elim
      · cases e2
    · rw [if_neg hij] at e2
      refine (h.sl j z e2).evo ev fun o u w _ => ?_
      rw [upd_ne fun w => hij (h.inj j i z x e2 e o ho w).symm]
      exact w
  · show s.length = (r.sl.set i x').length
    rw [List.length_set]
    exact h.len
/-- an own list is given up: from here on it is plain data -/
def Co.less (c : Co) (p : Addr) : Co := { c with O := fun b => c.O b ∧ b ≠ p }
theorem Cf.give (h : Cf K B c0 c ad H0 E s H r) {ds : List D} (e : r.sl[i]? = some (.ol ds)) : Cf K B c0 (c.less (ad i)) ad H0 E s H (r.at i (.sh (.lst ds))) ∧ Evo c H (c.less (ad i)) H := by
  obtain ⟨hO, h0, n1, n2, n3⟩ := h.own i _ e trivial
  have ev : Evo c H (c.less (ad i)) H := ⟨rfl, fun b u e _ n => ⟨e, fun z => n z.1⟩⟩
  refine ⟨{ sd := h.sd, sg := h.sg, scl := h.scl, sT := h.sT, tT := h.tT, dom0 := h.dom0, le := fun b hb => ⟨h.le b hb, fun z => let ⟨u, q, qt⟩ := h.dom0 b hb; h0.ne q qt z⟩, osd := ⟨h.osd, n1.symm⟩, osg := ⟨h.osg, n2.symm⟩, ex := h.ex, top := h.top, st := h.st, dom := fun b hb => h.dom b hb.1, own := ?_, inj := ?_, sl := ?_, len := ?_ }, ev⟩
  · intro j z e2 o
    rw [show (r.at i (.sh (.lst ds))).sl = r.sl.set i (.sh (.lst ds)) from rfl, List.getElem?_set] at e2
    by_cases hij : i = j
    · subst hij
      rw [if_pos rfl] at e2
      split at e2
      · cases e2; exact o.elim
      · cases e2
    · rw [if_neg hij] at e2
      have := h.own j z e2 o
      exact ⟨⟨this.1, fun w => hij (h.inj j i z _ e2 e o trivial w).symm⟩, this.2⟩
  · intro j l z w e2 e3 o o2 w2
    rw [show (r.at i (.sh (.lst ds))).sl = r.sl.set i (.sh (.lst ds)) from rfl, List.getElem?_set] at e2 e3
    split at e2
    · split at e2
      · cases e2; exact o.elim
      · cases e2
    · split at e3
      · split at e3
        · cases e3; exact o2.elim
        · cases e3
      · exact h.inj j l z w e2 e3 o o2 w2
  · intro j z e2
    rw [show (r.at i (.sh (.lst ds))).sl = r.sl.set i (.sh (.lst ds)) from rfl, List.getElem?_set] at e2
    by_cases hij : i = j
    · subst hij
      rw [if_pos rfl] at e2
      split at e2
      · cases e2
        obtain ⟨e1, xs, e3, l, a⟩ := (h.sl i _ e).1 trivial
        rw [e1]
        exact .sh (.lst (.inl ⟨.inl e3, fun z => z.2 rfl⟩) l (a.evo ev))
      · cases e2
    · rw [if_neg hij] at e2
      exact (h.sl j z e2).evo ev fun o u w _ => w
  · show s.length = (r.sl.set i _).length
    rw [List.length_set]
    exact h.len
end
end DS
/-! DS7: statements about own lists and dicts; calls by keywords. -/
namespace DS
open PySem PySem.Spec PyProof.Rows L2

def DF (g : G) (e : Expr) (m : WF) : Prop := ∃ t : EX → TE, ∀ y, g.Ok y → PE (g.cx y) e (t y.E) ∧ SemF g.K y.E m (t y.E)
def fLst (a : WA) : WF := ⟨fun r R => a r fun ds => ds.length ≤ sizeLine ∧ R (.ol ds), a.n⟩
section
variable {g : G} {e : Expr} {es : List Expr} {ma : WA} {pos : Pos}
theorem df_lst (h : DA g es ma) : DF g (.List es pos) (fLst ma) := by
  obtain ⟨t, p⟩ := h
  refine ⟨fun E => tLst (t E), fun y ok => ⟨pe_lst (p y ok).1, ?_⟩⟩
  intro B c0 c ad H0 s H rr R Q cf bd hm k
  refine (p y ok).2 B c0 c ad H0 s H rr _ _ cf bd hm fun ds vs H1 hx _ s1 a1 => ?_
  have l : vs.length ≤ sizeLine := by rw [a1.length]; exact hx.1
  exact ⟨l, fun q hq => k _ _ _ hx.2 trivial (s1.free0 hq) (s1.trans (Step.new (n := 0) s1.1 hq)) ⟨vs, upd_same, l, a1.evo (evo_with hq)⟩⟩
theorem df_dicK : DF g (.Dict [] [] pos) ⟨fun _ R => R (.ok []), 0⟩ :=
  ⟨fun E => tDNewK, fun y ok => ⟨pe_dnewK, fun B c0 c ad H0 s H rr R Q cf bd hm k q hq => k _ _ _ hm trivial (Fr.of hq) (Step.new cf.inv hq) ⟨[], upd_same, by decide, .nil⟩⟩⟩
theorem df_dicT : DF g (.Dict [] [] pos) ⟨fun _ R => R (.ot []), 0⟩ :=
  ⟨fun E => tDNewT, fun y ok => ⟨pe_dnewT, fun B c0 c ad H0 s H rr R Q cf bd hm k q hq => k _ _ _ hm trivial (Fr.of hq) (Step.new cf.inv hq) ⟨[], upd_same, by decide, .nil⟩⟩⟩
theorem df_lc {elt tg iter : Expr} {ifs : List Expr} {scope : Scope} {mi : WI} {mg : WG} {mc : WT} {me : WE} {ws : List Nat} (own : List (Str × Nat)) (hi : DI g tg iter mi) (hb : blkC g.N g.sc scope own = true) (hg : DG (g.blk scope) tg mg ws) (ht : DTs (g.blk scope) ifs mc)
    (he : DE (g.blk scope) elt me) (hv : ∀ i ∈ ws, i ∈ own.map (·.2) := by decide) (hs : ∀ env x, foldedSetIterable iter env x = pure x := by intro _ _; rfl) : DF g (.ListComp elt [⟨tg, iter, ifs, 0⟩] scope pos) (fLc mi mg mc me (own.map (·.2))) := by
  obtain ⟨ti, pi⟩ := hi
  obtain ⟨tg', pg⟩ := hg
  obtain ⟨tt, pt⟩ := ht
  obtain ⟨te, pe⟩ := he
  refine ⟨fun E => tLc (ti E) (tg' E) (tt E) (te E) (own.map (·.2)), fun y ok => ⟨?_, ?_⟩⟩
  · refine pe_lc (X := g.cx y) rfl ok.nd (pi y ok).1 (blkOk_by (by show blkC g.N y.env.scope scope own = true; rw [ok.sc]; exact hb)) (fun s H C cl fp => (pg _ (blk_ok ok s H C cl fp)).1) (fun s H C cl fp => (pt _ (blk_ok ok s H C cl fp)).1) (fun s H C cl fp => (pe _ (blk_ok ok s H C cl fp)).1) (hs _)
  · have ok' := blk_ok (scope := scope) ok y.s0 y.H0 y.env.locals [] []
    exact sem_flc hv (pi y ok).2 (pg _ ok').2 (pt _ ok').2 (pe _ ok').2
end
/-! ### x = a new one -/
def sOwn (i : Nat) (m : WF) : WS := ⟨fun W r => m r fun x => i < r.sl.length ∧ W.nx (r.at i x), m.n⟩
theorem sem_own {K : PySem.W.Frag} {E : EX} {i : Nat} {m : WF} {t : TE} (h : SemF K E m t) : SemS K E (sOwn i m) (tAsg t (gName i)) := by
  intro B c0 c ad H0 s H r W X cf bd hm k
  refine h B c0 c ad H0 s H r _ _ cf bd hm fun x p H' hR o hp s1 ob => ?_
  obtain ⟨cf', ev⟩ := cf.take hR.1 o hp s1 ob
  exact k.nx _ _ _ H' _ ev s1.3 hR.2 cf'
section
variable {g : G} {e : Expr} {m : WF} {pos pos' : Pos}
theorem ds_own (i : Nat) {x : Str} (he : DF g e m) (hi : g.N[i]? = some x := by rfl) (hx : g.sc.names.lookup x = some .local ∨ g.sc.names.lookup x = some .cell := by first | exact Or.inl rfl | exact Or.inr rfl)
    (hs : ∀ env, swapsWith e (some (.Name x pos')) pos.line env = pure false := by intro _; rfl) (hf : g.fn x = true ∨ g.sc.names.lookup x = some .local := by first | exact Or.inl rfl | exact Or.inr rfl) : DSt g (.Assign [.Name x pos'] e pos) (sOwn i m) :=
  let ⟨t, p⟩ := he; ⟨fun E => tAsg (t E) (gName i), fun y ok => ⟨ps_set (X := g.cx y) ok.nd hi (ok.loc hx) (p y ok).1 (hs _) (ok.hf hf), sem_own (p y ok).2⟩⟩
theorem ds_ownLc {elt tg iter : Expr} {ifs : List Expr} {scope : Scope} {mi : WI} {mg : WG} {mc : WT} {me : WE} {ws : List Nat} (own : List (Str × Nat)) (i : Nat) {y : Str} {py spos : Pos} (hi : DI g tg iter mi) (hb : blkC g.N g.sc scope own = true) (hg : DG (g.blk scope) tg mg ws) (ht : DTs (g.blk scope) ifs mc)
    (he : DE (g.blk scope) elt me) (hv : ∀ i ∈ ws, i ∈ own.map (·.2) := by decide)
    (hN : g.N[i]? = some y := by rfl) (hy : g.sc.names.lookup y = some .local := by rfl) (hk : g.sc.kind = .function := by rfl) (hl : (py.line == pos.line) = true := by rfl) (ha : (scope.names.any fun (n, k) => n == y && (k == .local || k == .cell)) = false := by decide +kernel)
    (hs : ∀ env x, foldedSetIterable iter env x = pure x := by intro _ _; rfl) : DSt g (.Assign [.Name y py] (.ListComp elt [⟨tg, iter, ifs, 0⟩] scope pos) spos) (sOwn i (fLc mi mg mc me (own.map (·.2)))) := by
  obtain ⟨ti, pi⟩ := hi
  obtain ⟨tg', pg⟩ := hg
  obtain ⟨tt, pt⟩ := ht
  obtain ⟨te, pe⟩ := he
  refine ⟨fun E => tAsg (tLc (ti E) (tg' E) (tt E) (te E) (own.map (·.2))) (gName i), fun z ok => ⟨?_, ?_⟩⟩
  · refine ps_setLc (X := g.cx z) rfl ok.nd hN (by show z.env.scope.names.lookup y = _; rw [ok.sc]; exact hy) (sw_true (by show z.env.scope.kind = _; rw [ok.sc]; exact hk) (by show z.env.scope.names.lookup y = _; rw [ok.sc]; exact hy) hl ha) (pi z ok).1
      (blkOk_by (by show blkC g.N z.env.scope scope own = true; rw [ok.sc]; exact hb)) (fun s H C cl fp => (pg _ (blk_ok ok s H C cl fp)).1) (fun s H C cl fp => (pt _ (blk_ok ok s H C cl fp)).1) (fun s H C cl fp => (pe _ (blk_ok ok s H C cl fp)).1) (hs _)
  · have ok' := blk_ok (scope := scope) ok z.s0 z.H0 z.env.locals [] []
    exact sem_own (sem_flc hv (pi z ok).2 (pg _ ok').2 (pt _ ok').2 (pe _ ok').2)
end
/-- x, y = a new one, e -/
def sParO (i j : Nat) (m : WF) (me : WE) : WS := ⟨fun W r => m r fun x => me r fun d => i < r.sl.length ∧ W.nx ((r.at i x).put j d), m.n + me.n⟩
theorem sem_parO {K : PySem.W.Frag} {E : EX} {i j : Nat} {m : WF} {me : WE} {t te : TE} (h : SemF K E m t) (he : SemE K E me te) : SemS K E (sParO i j m me) (tPar i j (tCons t (tCons te tNil))) := by
  intro B c0 c ad H0 s H r W X cf bd hm k
  refine h B c0 c ad H0 s H r _ _ cf (bd1 bd) hm fun x p H1 hx o hp s1 ob => ?_
  obtain ⟨u, e1⟩ := ob.dom o
  have cf1 := cf.apart hp s1 e1
  have ap := cf.isApart hp
  refine he B c0 _ ad H0 s H1 r _ _ cf1 (bd2 bd s1.3) hx fun d v H2 hR s2 a2 => ?_
  have ob2 : ObAt K (c.with p) H2 p x := ob.evo (cf1.evo s2) fun o q t => s2.2 _ _ q ap.n1 ap.n2 t
  have cf2 := ((cf1.step s2).settle ap hR.1 o ob2).put j a2
  exact ⟨.ref p, v, rfl, k.nx _ _ _ H2 _ ((cf.evoApart hp s1).trans (cf1.evo s2)) (up5 s1.3 s2.3) hR.2 cf2⟩
theorem ds_parO {g : G} (i j : Nat) {x y : Str} {a b : Expr} {m : WF} {me : WE} {px py pt pos : Pos} {kt k2 pt2} (ha : DF g a m) (hb : DE g b me) (hij : i ≠ j := by decide) (hi : g.N[i]? = some x := by rfl) (hj : g.N[j]? = some y := by rfl)
    (hx : g.sc.names.lookup x = some .local := by rfl) (hy : g.sc.names.lookup y = some .local := by rfl)
    (hsa : ∀ env, starEach [a, b] env = (false, eval a env) :: starEach [b] env := by intro _; rfl) (hsb : ∀ env, starEach [b] env = (false, eval b env) :: starEach [] env := by intro _; rfl)
    (hw : ∀ env : PySem.Env, env.scope = g.sc → swappedStores [.Tuple [.Name x px, .Name y py] kt pt] (.Tuple [a, b] k2 pt2) env = pure (some [x, y]) := by
      intro env h
      unfold swappedStores
      first | rfl | (simp only [Env.kindOf, Env.blockKind, h]; rfl) | (simp only [Env.kindOf, Env.blockKind, h]; decide +kernel))
    (hs : ∀ env, swapsWithSole [.Tuple [.Name x px, .Name y py] kt pt] (.Tuple [a, b] k2 pt2) pos.line env = pure false := by intro _; rfl) :
    DSt g (.Assign [.Tuple [.Name x px, .Name y py] kt pt] (.Tuple [a, b] k2 pt2) pos) (sParO i j m me) :=
  let ⟨t, p⟩ := ha; let ⟨t2, p2⟩ := hb; ⟨fun E => tPar i j (tCons (t E) (tCons (t2 E) tNil)), fun z ok => ⟨ps_par (X := g.cx z) rfl ok.nd hi hj hij (by show z.env.scope.names.lookup x = _; rw [ok.sc]; exact hx) (by show z.env.scope.names.lookup y = _; rw [ok.sc]; exact hy)
    (pa_cons (p z ok).1 (pa_cons (p2 z ok).1 pa_nil (hsb _)) (hsa _)) (hw _ ok.sc) (hs _), sem_parO (p z ok).2 (p2 z ok).2⟩⟩

/-! ### they are changed -/
def sApp (i : Nat) (m : WE) : WS := ⟨fun W r => ∃ ds, r.sl[i]? = some (.ol ds) ∧ m r fun d => ds.length < sizeLine ∧ W.nx (r.at i (.ol (ds ++ [d]))), m.n⟩
section
variable {g : G} {e : Expr} {m : WE} {pos : Pos}
theorem visOf {y : Dyn} (ok : g.Ok y) {x : Str} (h : g.sc.names.lookup x = some .local ∨ g.sc.names.lookup x = some .cell ∨ g.sc.names.lookup x = some .free) : Vis (g.cx y).env.scope x := by
  show Vis y.env.scope x
  unfold Vis
  rw [ok.sc]
  exact h
theorem ds_app (i : Nat) {x : Str} {p1 p2 p3 : Pos} (he : DE g e m) (hN : g.N[i]? = some x := by rfl) (hv : g.sc.names.lookup x = some .local ∨ g.sc.names.lookup x = some .cell ∨ g.sc.names.lookup x = some .free := by first | exact Or.inl rfl | exact Or.inr (Or.inl rfl) | exact Or.inr (Or.inr rfl))
    (hd : (x == ("__debug__" : Str)) = false := by decide) (hcd : (x == ("__classdict__" : Str)) = false := by decide) (hse : ∀ env, starEach [e] env = (false, eval e env) :: starEach [] env := by intro _; rfl) (hline : (p2.endLine == p3.line) = true := by rfl)
    (hbase : ∀ env, attributeBase (.Name x p1) "append" env (eval (.Name x p1) env) = eval (.Name x p1) env := by intro _; rfl)
    (hfew : ∀ env, ((backTo p3 (starEach [e] env)).all (fun x => !x.1) && (backToKw p3 (keywordEach [] env)).all (fun x => x.1.isSome) && decide ([e].length + ([] : List Keyword).length + (if ([] : List Keyword).isEmpty then 0 else 1) < 30)) = true := by intro _; rfl)
    (hs : ∀ env, swapsWith (.Call (.Attribute (.Name x p1) "append" p2) [e] [] p3) none pos.line env = pure false := by intro _; rfl) : DSt g (.Expr (.Call (.Attribute (.Name x p1) "append" p2) [e] [] p3) pos) (sApp i m) := by
  obtain ⟨t, p⟩ := he
  refine ⟨fun E => tDrop (tBM g.K "list" rAppend (tVar i) (tCons (t E) tNil)), fun y ok => ⟨ps_expr (pe_bm PySem.F.plainAttrs_list PySem.F.slot_list_append PySem.F.type_list_append mt_append (pe_var (X := g.cx y) hN (visOf ok hv) hd hcd) (pa_cons (p y ok).1 pa_nil (hse _)) (hbase _) (hfew _) hline (hse _) rfl) (hs _), ?_⟩⟩
  intro B c0 c ad H0 s H r W X cf bd ⟨ds, e1, hm⟩ k
  obtain ⟨e2, xs, e3, l, a⟩ := (cf.sl i _ e1).1 trivial
  refine ⟨.ref (ad i), e2, .inl ⟨rfl, xs, SqL.of e3⟩, ?_⟩
  refine (p y ok).2 B c0 c ad H0 s H r _ _ cf bd hm fun d v H1 hR s1 a1 => ?_
  have cf1 := cf.step s1
  obtain ⟨_, xs, e3, l, a⟩ := (cf1.sl i _ e1).1 trivial
  have lx : xs.length < sizeLine := by rw [a.length]; exact hR.1
  refine ⟨ad i, xs, v, rfl, rfl, e3, lx, ?_⟩
  have hne : ∀ b o, H1 b = some o → ¬ c.O b → (upd H1 (ad i) (.lst (xs ++ [v]))) b = some o := fun b o q n => by
    rw [upd_ne (show b ≠ ad i from fun z => n (by rw [z]; exact (cf1.own i _ e1 trivial).1))]; exact q
  have ev : Evo c H1 c (upd H1 (ad i) (.lst (xs ++ [v]))) := ⟨rfl, fun b o q _ n => ⟨hne b o q n, n⟩⟩
  obtain ⟨cf2, ev2⟩ := cf1.mut (x' := .ol (ds ++ [d])) e1 trivial trivial (o' := .lst (xs ++ [v])) nTL ⟨xs ++ [v], upd_same, by rw [List.length_append, List.length_singleton]; omega, (a.append (.cons a1 .nil)).evo ev⟩
  exact k.nx c ad s _ _ ((cf.evo s1).trans ev2) (by rw [trn_same (upd_ne (Ne.symm (cf1.own i _ e1 trivial).2.2.1))]; exact s1.3) hR.2 cf2
/-- x[e] = v, x an own list -/
def sPut (i : Nat) (me m : WE) : WS := ⟨fun W r => m r fun d => ∃ ds, r.sl[i]? = some (.ol ds) ∧ me r fun z => ∃ n j, z = .int n ∧ ixN ds.length n = some j ∧ W.nx (r.at i (.ol (ds.set j d))), m.n + me.n⟩
theorem AtL.set {K : PySem.W.Frag} {c : Co} {H : Hp} {v : V} {d : D} (a : At K c H v d) : ∀ {vs : List V} {ds : List D} (j : Nat), AtL K c H vs ds → AtL K c H (vs.set j v) (ds.set j d)
  | _, _, _, .nil => .nil
  | _, _, 0, .cons _ t => .cons a t
  | _, _, j + 1, .cons h t => .cons h (AtL.set a j t)
theorem ds_put (i : Nat) {x : Str} {ix : Expr} {me : WE} {p1 p2 : Pos} (he : DE g e m) (hix : DE g ix me) (hN : g.N[i]? = some x := by rfl) (hv : g.sc.names.lookup x = some .local ∨ g.sc.names.lookup x = some .cell ∨ g.sc.names.lookup x = some .free := by first | exact Or.inl rfl | exact Or.inr (Or.inl rfl) | exact Or.inr (Or.inr rfl))
    (hd : (x == ("__debug__" : Str)) = false := by decide) (hcd : (x == ("__classdict__" : Str)) = false := by decide)
    (ha : ∀ env v, assign (.Subscript (.Name x p1) ix p2) env v = (do
      let ov ← holding [v] (eval (.Name x p1) env)
      let iv ← holding [v, ov] (eval ix env)
      standAt p2
      holding [v, ov, iv] (setItem ov iv v)
      release [v, ov, iv] []) := by intro _ _; rfl)
    (hs : ∀ env, swapsWithSole [.Subscript (.Name x p1) ix p2] e pos.line env = pure false := by intro _; rfl) (hw : ∀ env, swappedStores [.Subscript (.Name x p1) ix p2] e env = pure none := by intro _; rfl)
    (h1 : ∀ env, (assignEach [.Subscript (.Name x p1) ix p2] env).map (·.2) = [assign (.Subscript (.Name x p1) ix p2) env] := by intro _; rfl) : DSt g (.Assign [.Subscript (.Name x p1) ix p2] e pos) (sPut i me m) := by
  obtain ⟨t, p⟩ := he
  obtain ⟨t2, q2⟩ := hix
  refine ⟨fun E => tAsg (t E) (gSub (tVar i) (t2 E) rSetL), fun y ok => ⟨ps_asg (p y ok).1 (pg_sub (pe_var (X := g.cx y) hN (visOf ok hv) hd hcd) (q2 y ok).1 set_list (ha _)) (hs _) (hw _) (h1 _), ?_⟩⟩
  intro B c0 c ad H0 s H r W X cf bd hm k
  refine (p y ok).2 B c0 c ad H0 s H r _ _ cf (bd1 bd) hm fun d v H1 hR s1 a1 => ?_
  have cf1 := cf.step s1
  obtain ⟨ds, e1, hR⟩ := hR
  obtain ⟨e2, xs, e3, l, a⟩ := (cf1.sl i _ e1).1 trivial
  refine ⟨.ref (ad i), e2, ?_⟩
  refine (q2 y ok).2 B c0 c ad H0 s H1 r _ _ cf1 (bd2 bd s1.3) hR fun z w H2 hz s2 a2 => ?_
  have cf2 := cf1.step s2
  obtain ⟨n, j, rfl, hj, hz⟩ := hz
  cases a2
  obtain ⟨_, xs, e3, l, a⟩ := (cf2.sl i _ e1).1 trivial
  refine ⟨ad i, xs, n, j, rfl, rfl, e3, by rw [a.length]; exact hj, ?_⟩
  have ev : Evo c H2 c (upd H2 (ad i) (.lst (xs.set j v))) := ⟨rfl, fun b o q _ n => ⟨by rw [upd_ne (show b ≠ ad i from fun z => n (by rw [z]; exact (cf2.own i _ e1 trivial).1))]; exact q, n⟩⟩
  obtain ⟨cf3, ev3⟩ := cf2.mut (x' := .ol (ds.set j d)) e1 trivial trivial (o' := .lst (xs.set j v)) nTL ⟨xs.set j v, upd_same, by rw [List.length_set]; exact l, (AtL.set (a1.evo (cf1.evo s2)) j a).evo ev⟩
  exact k.nx c ad s _ _ (((cf.evo s1).trans (cf1.evo s2)).trans ev3) (by rw [trn_same (upd_ne (Ne.symm (cf2.own i _ e1 trivial).2.2.1))]; exact up5 s1.3 s2.3) hz cf3
/-- x[e], x an own list -/
def eOwnIx (i : Nat) (me : WE) : WE := ⟨fun r R => ∃ ds, r.sl[i]? = some (.ol ds) ∧ me r fun z => ∃ n d, z = .int n ∧ atI ds n = some d ∧ R d, me.n⟩
theorem de_ownIx (i : Nat) {x : Str} {p1 : Pos} (hix : DE g e m) (hN : g.N[i]? = some x := by rfl) (hv : g.sc.names.lookup x = some .local ∨ g.sc.names.lookup x = some .cell ∨ g.sc.names.lookup x = some .free := by first | exact Or.inl rfl | exact Or.inr (Or.inl rfl) | exact Or.inr (Or.inr rfl))
    (hd : (x == ("__debug__" : Str)) = false := by decide) (hcd : (x == ("__classdict__" : Str)) = false := by decide) (hs : PlainIx e := by intro _ _; rfl) : DE g (.Subscript (.Name x p1) e pos) (eOwnIx i m) := by
  obtain ⟨t, p⟩ := hix
  refine ⟨fun E => tOp (rIxL g.K) (tVar i) (t E), fun y ok => ⟨pe_ix ix_list (pe_var (X := g.cx y) hN (visOf ok hv) hd hcd) (p y ok).1 hs, ?_⟩⟩
  intro B c0 c ad H0 s H r R Q cf bd ⟨ds, e1, hm⟩ k
  obtain ⟨e2, xs, e3, l, a⟩ := (cf.sl i _ e1).1 trivial
  refine ⟨.ref (ad i), e2, ?_⟩
  refine (p y ok).2 B c0 c ad H0 s H r _ _ cf bd hm fun z v H1 hR s1 a1 => ?_
  have cf1 := cf.step s1
  obtain ⟨n, d, rfl, hj, hz⟩ := hR
  cases a1
  obtain ⟨_, xs, e3, l, a⟩ := (cf1.sl i _ e1).1 trivial
  obtain ⟨w, e4, a4⟩ := a.atI hj
  exact ⟨ad i, xs, n, w, rfl, rfl, SqL.of e3, e4, k d w H1 hz s1 a4⟩
/-- an own list is given up behind a statement -/
def sGive (i : Nat) (m : WS) : WS := ⟨fun W r => ∃ ds, r.sl[i]? = some (.ol ds) ∧ m W (r.at i (.sh (.lst ds))), m.n⟩
theorem ds_give (i : Nat) {rest : List Stmt} {m : WS} (h : DSs g rest m) : DSs g rest (sGive i m) := by
  obtain ⟨t, p⟩ := h
  refine ⟨t, fun y ok => ⟨(p y ok).1, ?_⟩⟩
  intro B c0 c ad H0 s H r W X cf bd ⟨ds, e1, hm⟩ k
  obtain ⟨cf1, ev⟩ := cf.give e1
  exact (p y ok).2 B c0 _ ad H0 s H _ W X cf1 bd hm (k.evo ev (Nat.le_refl _))
end

/-! ### own dicts whose keys are tuples of numbers and texts -/
def getKV {κ α : Type} [DecidableEq κ] (kvs : List (κ × α)) (k : κ) : Option α := (kvs.find? fun kv => decide (kv.1 = k)).map (·.2)
def putKV {κ α : Type} [DecidableEq κ] (kvs : List (κ × α)) (k : κ) (v : α) : List (κ × α) :=
  if (kvs.any fun kv => decide (kv.1 = k)) = true then kvs.map (fun kv => if kv.1 = k then (kv.1, v) else kv) else kvs ++ [(k, v)]
section
variable {K : PySem.W.Frag} {c : Co} {H : Hp} {κ : Type} [DecidableEq κ]
theorem KvAt.get {us : List (κ × V)} {kvs : List (κ × D)} (h : KvAt K c H us kvs) {k : κ} {d : D} (e : getKV kvs k = some d) : ∃ v, valV us k = some v ∧ At K c H v d := by
  induction h with
  | nil => cases e
  | @cons k' v d' us kvs a h ih =>
    by_cases hk : k' = k
    · have e : ((((k', d') :: kvs).find? fun kv => decide (kv.1 = k)).map (·.2)) = some d := e
      rw [List.find?_cons_of_pos (by simpa using hk)] at e
      cases e
      exact ⟨v, by unfold valV; rw [List.find?_cons_of_pos (by simpa using hk)]; rfl, a⟩
    · have e : ((((k', d') :: kvs).find? fun kv => decide (kv.1 = k)).map (·.2)) = some d := e
      rw [List.find?_cons_of_neg (by simpa using hk)] at e
      obtain ⟨v2, e2, a2⟩ := ih e
      exact ⟨v2, by unfold valV at e2 ⊢; rw [List.find?_cons_of_neg (by simpa using hk)]; exact e2, a2⟩
theorem KvAt.any {us : List (κ × V)} {kvs : List (κ × D)} (h : KvAt K c H us kvs) (k : κ) : (us.any fun kv => decide (kv.1 = k)) = kvs.any fun kv => decide (kv.1 = k) := by
  induction h with
  | nil => rfl
  | cons a h ih => rw [List.any_cons, List.any_cons, ih]
theorem KvAt.snoc {us : List (κ × V)} {kvs : List (κ × D)} (h : KvAt K c H us kvs) {k : κ} {v : V} {d : D} (a : At K c H v d) : KvAt K c H (us ++ [(k, v)]) (kvs ++ [(k, d)]) := by
  induction h with
  | nil => exact .cons a .nil
  | cons b h ih => exact .cons b ih
theorem KvAt.over {us : List (κ × V)} {kvs : List (κ × D)} (h : KvAt K c H us kvs) {k : κ} {v : V} {d : D} (a : At K c H v d) : KvAt K c H (us.map fun kv => if kv.1 = k then (kv.1, v) else kv) (kvs.map fun kv => if kv.1 = k then (kv.1, d) else kv) := by
  induction h with
  | nil => exact .nil
  | @cons k' v' d' us kvs b h ih =>
    rw [List.map_cons, List.map_cons]
    by_cases hk : k' = k
    · rw [if_pos hk, if_pos hk]; exact .cons a ih
    · rw [if_neg hk, if_neg hk]; exact .cons b ih
theorem KvAt.put {us : List (κ × V)} {kvs : List (κ × D)} (h : KvAt K c H us kvs) {k : κ} {v : V} {d : D} (a : At K c H v d) : KvAt K c H (putK us k v) (putKV kvs k d) := by
  unfold putK putKV
  rw [h.any]
  split
  · exact h.over a
  · exact h.snoc a
end
/-- a key as data -/
def keyD : Key → D
  | .inl i => .int i
  | .inr x => .str x
theorem key_at {K : PySem.W.Frag} {c : Co} {H : Hp} {k : Key} {v : V} (a : At K c H v (keyD k)) : v = kV k := by
  cases k with
  | inl i => cases a; rfl
  | inr x => cases a; rfl
theorem keys_at {K : PySem.W.Frag} {c : Co} {H : Hp} : ∀ {k : List Key} {vs : List V}, AtL K c H vs (k.map keyD) → vs = k.map kV
  | [], _, .nil => rfl
  | k :: ks, _, .cons h t => by rw [key_at h, keys_at t]; rfl
/-- x[(e, ..)] = v -/
def sPutT (i : Nat) (ma : WA) (m : WE) : WS := ⟨fun W r => m r fun d => ∃ kvs, r.sl[i]? = some (.ot kvs) ∧ ma r fun ds => ∃ k : List Key, ds = k.map keyD ∧ ds.length ≤ sizeLine ∧ kvs.length < sizeLine ∧ W.nx (r.at i (.ot (putKV kvs k d))), m.n + ma.n⟩
def eGetT (i : Nat) (ma : WA) : WE := ⟨fun r R => ∃ kvs, r.sl[i]? = some (.ot kvs) ∧ ma r fun ds => ∃ (k : List Key) (d : D), ds = k.map keyD ∧ ds.length ≤ sizeLine ∧ getKV kvs k = some d ∧ R d, ma.n⟩
section
variable {g : G} {e : Expr} {es : List Expr} {m : WE} {ma : WA} {pos : Pos}
theorem ds_putT (i : Nat) {x : Str} {p1 p2 p3 : Pos} {x1} (he : DE g e m) (hk : DA g es ma) (hN : g.N[i]? = some x := by rfl) (hv : g.sc.names.lookup x = some .local ∨ g.sc.names.lookup x = some .cell ∨ g.sc.names.lookup x = some .free := by first | exact Or.inl rfl | exact Or.inr (Or.inl rfl) | exact Or.inr (Or.inr rfl))
    (hd : (x == ("__debug__" : Str)) = false := by decide) (hcd : (x == ("__classdict__" : Str)) = false := by decide)
    (hs : ∀ env, swapsWith e (some (.Subscript (.Name x p1) (.Tuple es x1 p3) p2)) pos.line env = pure false := by intro _; rfl) : DSt g (.Assign [.Subscript (.Name x p1) (.Tuple es x1 p3) p2] e pos) (sPutT i ma m) := by
  obtain ⟨t, p⟩ := he
  obtain ⟨t2, q2⟩ := hk
  refine ⟨fun E => sDPut (tVar i) (tTup (t2 E)) (t E), fun y ok => ⟨ps_dput (hu_of ok.room) (pe_var (X := g.cx y) hN (visOf ok hv) hd hcd) (pe_tup (q2 y ok).1) (p y ok).1 (hs _), ?_⟩⟩
  intro B c0 c ad H0 s H r W X cf bd hm k
  refine (p y ok).2 B c0 c ad H0 s H r _ _ cf (bd1 bd) hm fun d v H1 hR s1 a1 => ?_
  have cf1 := cf.step s1
  obtain ⟨kvs, e1, hR⟩ := hR
  obtain ⟨e2, us, e3, l, a⟩ := (cf1.sl i _ e1).1 trivial
  refine ⟨.ref (ad i), e2, ?_⟩
  refine (q2 y ok).2 B c0 c ad H0 s H1 r _ _ cf1 (bd2 bd s1.3) hR fun ds vs H2 hz _ s2 a2 => ?_
  have cf2 := cf1.step s2
  obtain ⟨ks, rfl, hl, hl2, hz⟩ := hz
  have hvs := keys_at a2
  subst hvs
  refine ⟨by rw [List.length_map]; rw [List.length_map] at hl; exact hl, fun b hb => ?_⟩
  have s3 : Step 0 c H2 (upd H2 b (.tup (ks.map kV))) := Step.new cf2.inv hb
  have cf3 := cf2.step s3
  obtain ⟨_, us, e3, l, a⟩ := (cf3.sl i _ e1).1 trivial
  refine ⟨ad i, _, rfl, DPut.t e3 upd_same (by rw [a.length]; exact hl2), ?_⟩
  have ev : Evo c (upd H2 b (.tup (ks.map kV))) c (upd (upd H2 b (.tup (ks.map kV))) (ad i) (.dT (putK us ks v))) := ⟨rfl, fun b o q _ n => ⟨by rw [upd_ne (show b ≠ ad i from fun z => n (by rw [z]; exact (cf3.own i _ e1 trivial).1))]; exact q, n⟩⟩
  have hsz : (putK us ks v).length ≤ sizeLine := by
    unfold putK
    split
    · rw [List.length_map]; exact l
    · rw [List.length_append, List.length_singleton, a.length]; omega
  obtain ⟨cf4, ev4⟩ := cf3.mut (x' := .ot (putKV kvs ks d)) e1 trivial trivial (o' := .dT (putK us ks v)) nTD ⟨_, upd_same, hsz, (a.put ((a1.evo (cf1.evo s2)).evo (cf2.evo s3))).evo ev⟩
  exact k.nx c ad s _ _ ((((cf.evo s1).trans (cf1.evo s2)).trans (cf2.evo s3)).trans ev4) (by rw [trn_same (upd_ne (Ne.symm (cf3.own i _ e1 trivial).2.2.1)), trn_new cf2.inv hb]; exact up5 s1.3 s2.3) hz cf4
theorem de_getT (i : Nat) {x : Str} {p1 p3 : Pos} {x1} (hk : DA g es ma) (hN : g.N[i]? = some x := by rfl) (hv : g.sc.names.lookup x = some .local ∨ g.sc.names.lookup x = some .cell ∨ g.sc.names.lookup x = some .free := by first | exact Or.inl rfl | exact Or.inr (Or.inl rfl) | exact Or.inr (Or.inr rfl))
    (hd : (x == ("__debug__" : Str)) = false := by decide) (hcd : (x == ("__classdict__" : Str)) = false := by decide) (hs : NoSl (.Tuple es x1 p3) := by intro _ _; rfl) : DE g (.Subscript (.Name x p1) (.Tuple es x1 p3) pos) (eGetT i ma) := by
  obtain ⟨t2, q2⟩ := hk
  refine ⟨fun E => tDGet (tVar i) (tTup (t2 E)), fun y ok => ⟨pe_dget (hu_of ok.room) (pe_var (X := g.cx y) hN (visOf ok hv) hd hcd) (pe_tup (q2 y ok).1) hs, ?_⟩⟩
  intro B c0 c ad H0 s H r R Q cf bd ⟨kvs, e1, hm⟩ k
  obtain ⟨e2, us, e3, l, a⟩ := (cf.sl i _ e1).1 trivial
  refine ⟨.ref (ad i), e2, ?_⟩
  refine (q2 y ok).2 B c0 c ad H0 s H r _ _ cf bd hm fun ds vs H2 hz _ s2 a2 => ?_
  have cf2 := cf.step s2
  obtain ⟨ks, d, rfl, hl, hg, hz⟩ := hz
  have hvs := keys_at a2
  subst hvs
  refine ⟨by rw [List.length_map]; rw [List.length_map] at hl; exact hl, fun b hb => ?_⟩
  have s3 : Step 0 c H2 (upd H2 b (.tup (ks.map kV))) := Step.new cf2.inv hb
  have cf3 := cf2.step s3
  obtain ⟨_, us, e3, l, a⟩ := (cf3.sl i _ e1).1 trivial
  obtain ⟨v, ev, av⟩ := a.get hg
  refine ⟨ad i, v, rfl, ?_, k d v _ hz (s2.trans s3) av⟩
  have := DGet.t e3 (upd_same (H := H2) (a := b) (o := .tup (ks.map kV)))
  rw [ev] at this
  exact this
end
/-! ### what is unpacked -/
def sUnp (m : WE) (mg : WG) : WS := ⟨fun W r => m r fun d => mg d r fun r' => W.nx r', m.n⟩
theorem ds_unp {g : G} {tg e : Expr} {m : WE} {mg : WG} {ws : List Nat} {pos : Pos} (he : DE g e m) (hg : DG g tg mg ws)
    (hw : ∀ env : PySem.Env, env.scope = g.sc → swappedStores [tg] e env = pure none := by
      intro env h
      unfold swappedStores
      first | rfl | (simp only [Env.kindOf, Env.blockKind, h]; rfl) | (simp only [Env.kindOf, Env.blockKind, h]; decide +kernel))
    (hs : ∀ env, swapsWithSole [tg] e pos.line env = pure false := by intro _; rfl) (h1 : ∀ env, (assignEach [tg] env).map (·.2) = [assign tg env] := by intro _; rfl) : DSt g (.Assign [tg] e pos) (sUnp m mg) := by
  obtain ⟨t, p⟩ := he
  obtain ⟨t2, p2⟩ := hg
  refine ⟨fun E => tAsg (t E) (t2 E), fun y ok => ⟨ps_asg (p y ok).1 (p2 y ok).1 (hs _) (hw _ ok.sc) (h1 _), ?_⟩⟩
  intro B c0 c ad H0 s H r W X cf bd hm k
  refine (p y ok).2 B c0 c ad H0 s H r _ _ cf bd hm fun d v H1 hR s1 a1 => ?_
  exact (p2 y ok).2 B c0 c ad H0 s H1 r v d _ _ (cf.step s1) a1 hR fun s' r' hr' cf' _ _ => k.nx c ad s' H1 r' (cf.evo s1) s1.3 hr' cf'
theorem sem_unpO {K : PySem.W.Frag} {E : EX} {i j : Nat} {m : WF} {me : WE} {t te : TE} (h : SemF K E m t) (he : SemE K E me te) : SemS K E (sParO i j m me) (tAsg (tTup (tCons t (tCons te tNil))) (gTup K 2 (gCons (gName i) (gCons (gName j) gNil)))) := by
  intro B c0 c ad H0 s H r W X cf bd hm k
  refine h B c0 c ad H0 s H r _ _ cf (bd1 bd) hm fun x p H1 hx o hp s1 ob => ?_
  obtain ⟨u, e1⟩ := ob.dom o
  have cf1 := cf.apart hp s1 e1
  have ap := cf.isApart hp
  refine he B c0 _ ad H0 s H1 r _ _ cf1 (bd2 bd s1.3) hx fun d v H2 hR s2 a2 => ?_
  refine ⟨by show 2 ≤ sizeLine; decide, fun q hq => ?_⟩
  have cf2 := cf1.step s2
  have s3 : Step 0 (c.with p) H2 (upd H2 q (.tup [.ref p, v])) := Step.new cf2.inv hq
  have ob2 : ObAt K (c.with p) (upd H2 q (.tup [.ref p, v])) p x := (ob.evo (cf1.evo s2) fun o q t => s2.2 _ _ q ap.n1 ap.n2 t).evo (cf2.evo s3) fun o q t => s3.2 _ _ q ap.n1 ap.n2 t
  have cf3 := ((cf2.step s3).settle ap hR.1 o ob2).put j (a2.evo (cf2.evo s3))
  have le : trn c.sd (upd H2 q (.tup [.ref p, v])) = trn c.sd H2 := trn_new cf2.inv hq
  refine ⟨q, _, rfl, .inl (.inl upd_same), rfl, _, _, rfl, _, _, rfl, rfl, k.nx _ _ _ _ _ (((cf.evoApart hp s1).trans (cf1.evo s2)).trans (cf2.evo s3)) ?_ hR.2 cf3⟩
  show trn c.sd _ ≤ _
  rw [le]
  exact up5 s1.3 s2.3
theorem ds_unpO {g : G} (i j : Nat) {x y : Str} {a b : Expr} {m : WF} {me : WE} {px py pt pos : Pos} {kt k2 pt2} (ha : DF g a m) (hb : DE g b me) (hi : g.N[i]? = some x := by rfl) (hj : g.N[j]? = some y := by rfl)
    (hx : g.sc.names.lookup x = some .local ∨ g.sc.names.lookup x = some .cell := by first | exact Or.inl rfl | exact Or.inr rfl) (hy : g.sc.names.lookup y = some .local ∨ g.sc.names.lookup y = some .cell := by first | exact Or.inl rfl | exact Or.inr rfl)
    (hf : g.fn x = true ∨ g.sc.names.lookup x = some .local := by first | exact Or.inl rfl | exact Or.inr rfl) (hf2 : g.fn y = true ∨ g.sc.names.lookup y = some .local := by first | exact Or.inl rfl | exact Or.inr rfl)
    (hsa : ∀ env, starEach [a, b] env = (false, eval a env) :: starEach [b] env := by intro _; rfl) (hsb : ∀ env, starEach [b] env = (false, eval b env) :: starEach [] env := by intro _; rfl)
    (hw : ∀ env : PySem.Env, env.scope = g.sc → swappedStores [.Tuple [.Name x px, .Name y py] kt pt] (.Tuple [a, b] k2 pt2) env = pure none := by
      intro env h
      unfold swappedStores
      first | rfl | (simp only [Env.kindOf, Env.blockKind, h]; rfl) | (simp only [Env.kindOf, Env.blockKind, h]; decide +kernel))
    (hs : ∀ env, swapsWithSole [.Tuple [.Name x px, .Name y py] kt pt] (.Tuple [a, b] k2 pt2) pos.line env = pure false := by intro _; rfl)
    (h1 : ∀ env, (assignEach [.Tuple [.Name x px, .Name y py] kt pt] env).map (·.2) = [assign (.Tuple [.Name x px, .Name y py] kt pt) env] := by intro _; rfl) :
    DSt g (.Assign [.Tuple [.Name x px, .Name y py] kt pt] (.Tuple [a, b] k2 pt2) pos) (sParO i j m me) :=
  let ⟨t, p⟩ := ha; let ⟨t2, p2⟩ := hb; ⟨fun E => tAsg (tTup (tCons (t E) (tCons (t2 E) tNil))) (gTup g.K 2 (gCons (gName i) (gCons (gName j) gNil))), fun z ok =>
    ⟨ps_asg (pe_tup (pa_cons (p z ok).1 (pa_cons (p2 z ok).1 pa_nil (hsb _)) (hsa _))) (pg_tup rfl (pgs_cons (pg_name (X := g.cx z) ok.nd hi (ok.loc hx) (ok.hf hf)) (pgs_cons (pg_name (X := g.cx z) ok.nd hj (ok.loc hy) (ok.hf hf2)) pgs_nil))) (hs _) (hw _ ok.sc) (h1 _),
      sem_unpO (p z ok).2 (p2 z ok).2⟩⟩
end DS
/-! DS8: x[::-1], tuples times numbers, keywords, two fors. -/
namespace DS
open PySem PySem.Spec PyProof.Rows L2

section
variable {prog : Program} {w : World} {A : Around} {E : Value → Shared → Prop} {s : Shared}
theorem sliceApplied_rev {sl : Addr} {t : Tok} {n : Nat} {Q : Int × Int × Nat → Shared → Prop} (hs : s.heap.IsSliceOf sl .none .none (.int (-1) t)) (h : Q ((n : Int) - 1, -1, n) s) :
    wpAny (model prog w) A (Builtin.Slice.sliceApplied (.ref sl) (pure (n : Int))) Q E s := by
  obtain ⟨os, hos, hcs, hds⟩ := id hs
  unfold Builtin.Slice.sliceApplied Builtin.Slice.sliceFields
  refine wpAny_bind (wpAny_bind (wpAny_field hos hds (x := .none) rfl (wpAny_bind (wpAny_field hos hds (x := .none) rfl (wpAny_bind (wpAny_field hos hds (x := .int (-1) t) rfl (wpAny_pure ?_)))))))
  refine wpAny_bind (HT.slicePart_ (.int (-1) t) ?_)
  show wpAny _ _ (if ((-1 : Int) == 0) = true then _ else _) _ _ s
  rw [if_neg (by decide)]
  refine wpAny_bind (HT.slicePart_ .none (wpAny_bind (HT.slicePart_ .none (wpAny_bind (wpAny_pure ?_)))))
  have e1 : Builtin.Slice.sliceAdjust none none (-1) (n : Int) = ((n : Int) - 1, -1) := by
    unfold Builtin.Slice.sliceAdjust
    simp
  have e2 : Builtin.Slice.slicePlaces ((n : Int) - 1) (-1) (-1) = n := by
    unfold Builtin.Slice.slicePlaces
    simp
    split <;> omega
  show wpAny _ _ (match Builtin.Slice.sliceAdjust none none (-1) (n : Int) with | (lo, hi) => pure (lo, (-1 : Int), Builtin.Slice.slicePlaces lo hi (-1))) _ _ s
  rw [e1]
  show wpAny _ _ (pure ((n : Int) - 1, (-1 : Int), Builtin.Slice.slicePlaces ((n : Int) - 1) (-1) (-1))) _ _ s
  rw [e2]
  exact wpAny_pure h
theorem pick_rev (xs : Array Value) : ((List.range xs.size).filterMap fun (m : Nat) => xs[((xs.size : Int) - 1 + (m : Int) * -1).toNat]?).toArray = xs.toList.reverse.toArray := by
  rw [← PySem.W.krv_all xs, ← List.filterMap_reverse, ← PySem.W.krv_range, List.filterMap_map]
  have key : ∀ (l : List Nat), (∀ m ∈ l, m < xs.size) → l.filterMap (fun (m : Nat) => xs[((xs.size : Int) - 1 + (m : Int) * -1).toNat]?) = l.filterMap ((xs[·]?) ∘ fun k => xs.size - 1 - k) := by
    intro l
    induction l with
    | nil => intro _; rfl
    | cons m l ih =>
      intro hl
      have hm := hl m List.mem_cons_self
      have e : ((xs.size : Int) - 1 + (m : Int) * -1).toNat = xs.size - 1 - m := by omega
      rw [List.filterMap_cons, List.filterMap_cons, ih fun k hk => hl k (List.mem_cons_of_mem _ hk), e]
      rfl
  rw [key _ fun m hm => List.mem_range.mp hm]
theorem getItem_tuple_rev {t sl : Addr} {items : Array Value} {tk : Tok} {Q : Value → Shared → Prop} (ht : IsTup s.heap t items) (hs : s.heap.IsSliceOf sl .none .none (.int (-1) tk))
    (h : Q (.ref s.heap.objs.size) { s with heap := s.heap.push { cls := .type "tuple", data := .seq items.toList.reverse.toArray } }) (hsz : items.size ≤ sizeLine) : wpAny (model prog w) A (getItem (.ref t) (.ref sl)) Q E s := by
  have htake : sizeOk (.seq items.toList.reverse.toArray) := by
    show items.toList.reverse.toArray.size ≤ sizeLine
    rw [List.size_toArray, List.length_reverse, Array.length_toList]
    exact hsz
  obtain ⟨os, hos, hcs, hds⟩ := id hs
  have hTs : s.TypeIs (.ref sl) "slice" := ⟨os, hos, hcs⟩
  unfold getItem
  try with_reducible refine wpAny_holding ?_
  first | refine wpAny_bind (wpAny_pure ?_) | skip
  refine wpAny_bind (wpAny_sequenceKey ht.typeIs (by decide) ?_)
  refine wpAny_bind (wpAny_callSpecial?_slot (name := Str.ofString "__getitem__") ht.typeIs PyProof.Rows.slot_tuple_getitem
    (wpAny_call_entry PyProof.Rows.slot_tuple_getitem ht.typeIs entry_tuple_getitem ?_ (args_tuple_getitem _ _)))
  show wpAny _ _ (Builtin.Tuple.tupleItemsOf (.ref t) >>= _) _ _ s
  refine wpAny_bind (tupleItemsOf_ ht ?_)
  refine wpAny_bind (wpAny_typeOf hTs ?_)
  rw [if_pos (by decide)]
  refine wpAny_bind (sliceApplied_rev hs ?_)
  show wpAny _ _ (if (((items.size : Int) - 1) == 0 && (-1 : Int) == 1 && items.size == items.size) = true then _ else _) _ _ s
  rw [if_neg (by simp), pick_rev]
  first
    | exact wpAny_bind (m := Builtin.Tuple.tupleExact _) (wpAny_newObj_type (wpAny_pure ⟨_, rfl, wpAny_pure h⟩) htake)
    | exact wpAny_bind (m := Builtin.Tuple.tupleExact _) (wpAny_newObj_type (wpAny_bind (wpAny_pure (wpAny_pure ⟨_, rfl, wpAny_pure h⟩))) htake)
    | exact wpAny_bind (wpAny_bind (m := Builtin.Tuple.tupleExact _) (wpAny_newObj_type (wpAny_pure (wpAny_pure ⟨_, rfl, wpAny_pure h⟩)) htake))
    | exact wpAny_bind (wpAny_bind (m := Builtin.Tuple.tupleExact _) (wpAny_newObj_type (wpAny_pure ⟨_, rfl, wpAny_pure h⟩) htake))
end
/-- t[::-1], a tuple -/
def tRevT (K : PySem.W.Frag) (te : TE) : TE := fun s H Q => te s H fun x H1 => ∃ a xs, x = .ref a ∧ SqT K H1 a xs ∧ ∀ p, H1 p = none → Q (.ref p) (upd H1 p (.tup xs.reverse))
theorem vals_reverse : ∀ {xs : List V} {us : List Value}, Vals xs us → Vals xs.reverse us.reverse
  | _, _, .nil => .nil
  | _, _, .cons r t => by rw [List.reverse_cons, List.reverse_cons]; exact (vals_reverse t).append (.cons r .nil)
theorem pe_revT {X : Cx} {e : Expr} {te : TE} {j : Nat} {p0 p1 p2 pos : Pos} (he : PE X e te) : PE X (.Subscript e (.Slice none none (some (.UnaryOp .USub (.Constant (.int 1) j p0) p1)) p2) pos) (tRevT X.K te) := by
  refine ⟨fun pins s σ H Q I h => ?_⟩
  refine Subscript_ (thn (he.run pins s σ H _ I h) fun v s1 ⟨x, H1, I1, r1, q1⟩ => ?_)
  have hst : PE X (.UnaryOp .USub (.Constant (.int 1) j p0) p1) (tUn (rU fun i => .int (-i)) (tC (.int 1))) := pe_un un_neg pe_int
  refine wpAny_Slice ?_
  rw [evalPart_none]
  refine wpAny_pure (wpAny_pure ?_)
  rw [evalPart_some]
  refine thn (hst.run pins s1 σ H1 (fun z H2 => z = .int (-1) ∧ H2 = H1) I1 ⟨1, rfl, rfl, rfl⟩) fun st s3 hz => ?_
  obtain ⟨z, H3, I3, rz, rfl, rfl⟩ := hz
  obtain ⟨tk, rfl⟩ := rz
  obtain ⟨a, xs, rfl, hx, q⟩ := q1
  cases r1
  have I4 : Inv X pins σ H3 { s3 with heap := s3.heap.push { cls := .type "slice", data := .fields #[.none, .none, .int (-1) tk] } } := I3.kept (t' := s3.toks) fun b ob q => Heap.get?_push_of_some _ q
  obtain ⟨its, r, ht, hz⟩ := I4.tuple hx
  have hlen : its.toArray.size = xs.length := by rw [List.size_toArray]; exact r.length.symm
  refine tail_any (ops := [.ref a, .ref s3.heap.objs.size]) (T := "tuple") ht.typeIs PyProof.Rows.slot_tuple_getitem.lookup ?_ (by with_unfolding_all rfl)
  refine getItem_tuple_rev (sl := s3.heap.objs.size) (tk := tk) ht ⟨_, Heap.get?_push_size _ rfl, rfl, rfl⟩ ?_ (by rw [hlen]; exact hz)
  refine ⟨.ref _, _, I4.laid (t' := s3.toks) (o := .tup xs.reverse) (fun b ob q => Heap.get?_push_of_some _ q) (Nat.le_refl _) ?_, rfl, q _ (I4.hok.fresh (Nat.le_refl _))⟩
  exact ⟨by rw [List.length_reverse]; exact hz, _, vals_reverse r, IsTup.new _ _⟩
def eRev (m : WE) : WE := ⟨fun r R => m r fun d => ∃ ds, d = .tup ds ∧ R (.tup ds.reverse), m.n⟩
theorem de_rev {g : G} {e : Expr} {m : WE} {j : Nat} {p0 p1 p2 pos : Pos} (h : DE g e m) : DE g (.Subscript e (.Slice none none (some (.UnaryOp .USub (.Constant (.int 1) j p0) p1)) p2) pos) (eRev m) := by
  obtain ⟨t, p⟩ := h
  refine ⟨fun E => tRevT g.K (t E), fun y ok => ⟨pe_revT (p y ok).1, ?_⟩⟩
  intro B c0 c ad H0 s H r R Q cf bd hm k
  refine (p y ok).2 B c0 c ad H0 s H r _ _ cf bd hm fun d v H1 hR s1 a1 => ?_
  obtain ⟨ds, rfl, hR⟩ := hR
  have ho := (cf.step s1).ho
  cases a1 with
  | tup h l r1 => exact ⟨_, _, rfl, h.sq, fun q hq => k _ _ _ hR (s1.trans (ho.new (n := 0) hq)) (ho.tup hq (by rw [List.length_reverse]; exact l) r1.reverse)⟩
end DS
/-! DS9: tuples times numbers, keywords, two fors, enumerate of tuples. -/
namespace DS
open PySem PySem.Spec PyProof.Rows L2

theorem tuple_mulW1 (l : Addr) (items : Array Value) (n : Nat) (sl : Array (Option Value)) (u : Tok) (dd : Option Addr) :
    Meets (Builtin.«tuple.__mul__» ⟨[.ref l, .int 1 u], []⟩) (fun _ R s => s.heap.get? l = some { cls := .type "tuple", dict := dd, data := .seq items n, slots := sl } ∧ R (.ok (.ret (Value.ref l))) s) :=
  .of_wp fun prog w A R s h => by
    obtain ⟨hp, g, d, tk, os⟩ := s
    obtain ⟨hl, h⟩ := h
    have f1 := AutoSeq1.idx_int
    wp_walk using wpAny_loadPart' hl
    repeat (first
      | (refine wpAny_ite_true (decide_eq_true (by rw [Bool.or_eq_true]; exact .inr rfl)) ?_; wp_walk using wpAny_loadPart' hl)
      | (refine wpAny_ite_true (decide_eq_true (by simp)) ?_; wp_walk using wpAny_loadPart' hl)
      | (refine wpAny_ite_false (decide_eq_false (by decide)) ?_; wp_walk using wpAny_loadPart' hl))
    exact ⟨_, rfl, h⟩
theorem op_repT1 {X : Cx} : OpR X (binaryOp .Mult) (fun x y H Q => ∃ l xs, x = .ref l ∧ y = .int 1 ∧ SqT X.K H l xs ∧ Q (.ref l) H) := by
  intro pins s σ H x y v u Q I rx ry h
  obtain ⟨l, xs, rfl, rfl, hT, q⟩ := h
  cases rx
  obtain ⟨t, rfl⟩ := ry
  obtain ⟨its, r, ⟨⟨cls, dd, data, sl⟩, ho, hc, n, hd⟩, hs⟩ := I.tuple hT
  simp only at hc hd
  subst hc hd
  exact wpAny_binaryOp_repeat_ref (T := "tuple") (U := "int") (by decide) ⟨_, ho, rfl⟩ (fun s' => typeIs_int s' 1 t) noFill_tuple_mul F.fills_int_mul F.slot_int_rmul repeat_tuple F.slot_int_index.lookup
    (call_meets F.slot_int_rmul (typeIs_int s 1 t) F.entry_int_rmul (F.args_int_rmul_2 _ _) (int_rmul_tuple 1 t l its.toArray n dd sl)
      ⟨ho, rfl, ⟨_, ho, rfl⟩, call_meets F.slot_tuple_mul ⟨_, ho, rfl⟩ F.entry_tuple_mul (F.args_tuple_mul_2 _ _) (tuple_mulW1 l its.toArray n sl t dd) ⟨ho, ⟨.ref l, H, I, rfl, q⟩⟩⟩)
def rep {α : Type} (k : Nat) (xs : List α) : List α := (List.replicate k xs).flatten
/-- a tuple so many times -/
def mulT (x y : D) : Option D := match x with
  | .tup ds => match y with
    | .int k => if ds ≠ [] ∧ 1 ≤ k ∧ k ≤ 1000 ∧ ds.length ≤ 1000 then some (.tup (rep k.toNat ds)) else none
    | _ => none
  | _ => none
def mulD (x y : D) : Option D := (mulI x y).or (mulT x y)
def rMulA (K : PySem.W.Frag) : R2 := fun x y H Q => rI CMul (fun i j => .int (i * j)) x y H Q ∨ (∃ l xs, x = .ref l ∧ y = .int 1 ∧ SqT K H l xs ∧ Q (.ref l) H) ∨ rRepT K x y H Q
theorem op_mulA {X : Cx} : OpR X (binaryOp .Mult) (rMulA X.K) := op_mul.or (op_repT1.or op_repT)
theorem AtL.rep {K : PySem.W.Frag} {c : Co} {H : Hp} {vs : List V} {ds : List D} (a : AtL K c H vs ds) : ∀ k, AtL K c H (DS.rep k vs) (DS.rep k ds)
  | 0 => .nil
  | k + 1 => by
    unfold DS.rep
    rw [List.replicate_succ, List.replicate_succ, List.flatten_cons, List.flatten_cons]
    exact a.append (AtL.rep a k)
theorem rep_len {α : Type} (k : Nat) (xs : List α) : (rep k xs).length = k * xs.length := by
  induction k with
  | zero => simp [rep]
  | succ k ih =>
    unfold rep at ih ⊢
    rw [List.replicate_succ, List.flatten_cons, List.length_append, ih, Nat.succ_mul, Nat.add_comm]
theorem s_mul {K : PySem.W.Frag} : SemO K mulD (rMulA K) := by
  have h2 : SemO K mulT (fun x y H Q => (∃ l xs, x = .ref l ∧ y = .int 1 ∧ SqT K H l xs ∧ Q (.ref l) H) ∨ rRepT K x y H Q) := by
    intro c H v u x y z Q ho a b e k
    cases a with
    | @tup a0 xs ds h l r => cases b with
      | int n =>
        have e : (if ds ≠ [] ∧ 1 ≤ n ∧ n ≤ 1000 ∧ ds.length ≤ 1000 then some (D.tup (rep n.toNat ds)) else none) = some z := e
        split at e
        · rename_i hc
          cases e
          by_cases h1 : n = 1
          · subst h1
            have e1 : rep (1 : Int).toNat ds = ds := by
              show (List.replicate 1 ds).flatten = ds
              simp
            rw [e1] at k
            exact .inl ⟨_, xs, rfl, rfl, h.sq, k _ H (Step.refl ho.inv) (.tup h l r)⟩
          · refine .inr ⟨_, n, xs, rfl, rfl, h.sq, ?_, by omega, hc.2.2.1, by rw [r.length]; exact hc.2.2.2, fun p hp => ?_⟩
            · intro q
              subst q
              cases r
              exact hc.1 rfl
            · refine k _ _ (ho.new hp) (ho.tup hp ?_ (r.rep n.toNat))
              have := rep_len n.toNat xs
              have hl := r.length
              have : n.toNat * xs.length ≤ 1000 * 1000 := Nat.mul_le_mul (by omega) (by omega)
              have e5 : (rep n.toNat xs).length = (List.replicate n.toNat xs).flatten.length := rfl
              rw [sizeLine_eq]
              omega
        · cases e
      | _ => cases e
    | _ => cases e
  exact s_mulI.or h2

/-! ### enumerate -/
theorem meets_enumerate_newT (l : Addr) (items : Array Value) (n : Nat) (dct : Option Addr) (sl : Array (Option Value)) :
    Meets (Builtin.«enumerate.__new__» ⟨[.type "enumerate", .ref l], []⟩) (fun _ R s => s.heap.get? l = some { cls := .type "tuple", dict := dct, data := .seq items n, slots := sl } ∧
      R (.ok (.ret (.ref (s.heap.push { cls := .type "tuple_iterator", data := .fields #[.ref l, .int 0 0] }).objs.size)))
        { s with heap := (s.heap.push { cls := .type "tuple_iterator", data := .fields #[.ref l, .int 0 0] }).push { cls := .type "enumerate", data := .fields #[.none, .bool false, .ref s.heap.objs.size, rawInt 0, .none, .none] } }) :=
  .of_wp fun prog w A R s h => by
    obtain ⟨hp, g, d, tk, os⟩ := s; obtain ⟨hl, h⟩ := h
    have hsub := sub_enumerate
    have hL : Heap.IsTuple (Shared.heap ⟨hp, g, d, tk, os⟩) l items := ⟨_, hl, rfl, n, rfl⟩
    wp_walk using AutoSeq1.wpAny_loadPart' hl
    refine wpAny_stack_any fun st => wpAny_pure ?_
    split
    · rename_i c _ _ _ _ _
      cases (c == Value.type "enumerate")
      · wp_walk using AutoSeq1.wpAny_loadPart' hl, wpAny_pyIter_tuple hL
        exact ⟨_, rfl, h⟩
      · wp_walk using AutoSeq1.wpAny_loadPart' hl, wpAny_pyIter_tuple hL
        exact ⟨_, rfl, h⟩
    · wp_walk using AutoSeq1.wpAny_loadPart' hl, wpAny_pyIter_tuple hL
      exact ⟨_, rfl, h⟩
theorem call_enumerate_tuple {prog : Program} {w : World} {A : Around} {E : Value → Shared → Prop} {s : Shared} {l : Addr} {items : Array Value} {Q : Value → Shared → Prop} (hL : s.heap.IsTuple l items)
    (h : ∀ h', IsEnum h' (s.heap.objs.size + 1) s.heap.objs.size 0 .none → h'.IsTupleIter s.heap.objs.size l 0 → h'.objs.size = s.heap.objs.size + 2 →
      (∀ b o, s.heap.get? b = some o → h'.get? b = some o) → Q (.ref (s.heap.objs.size + 1)) { s with heap := h' }) :
    wpAny (model prog w) A (call (.type "enumerate") [.ref l]) Q E s := by
  obtain ⟨⟨c, dct, dt, sl⟩, hl, hc, n, hd⟩ := hL
  replace hc : c = .type "tuple" := hc
  replace hd : dt = .seq items n := hd
  subst hc hd
  refine callType_new F.called_enumerate (by decide) (F.typeCall_enumerate_1 _) (F.newCall_enumerate_1 _) (fun obj => F.args_object_init_2 obj _) F.entry_enumerate_new
    (meets_enumerate_newT l items n dct sl) ⟨hl, ?_⟩
  have hz : (s.heap.push { cls := .type "tuple_iterator", data := .fields #[.ref l, .int 0 0] }).objs.size = s.heap.objs.size + 1 := Heap.size_push ..
  show _ ∧ _
  rw [hz]
  have he : IsEnum ((s.heap.push { cls := .type "tuple_iterator", data := .fields #[.ref l, .int 0 0] }).push
      { cls := .type "enumerate", data := .fields #[.none, .bool false, .ref s.heap.objs.size, rawInt 0, .none, .none] }) (s.heap.objs.size + 1) s.heap.objs.size 0 .none := by
    have := Heap.get?_push_size (s.heap.push { cls := .type "tuple_iterator", data := .fields #[.ref l, .int 0 0] })
      (o := { cls := .type "enumerate", data := .fields #[.none, .bool false, .ref s.heap.objs.size, rawInt 0, .none, .none] }) rfl
    rw [hz] at this; exact this
  refine ⟨⟨_, he, rfl⟩, h _ he ⟨_, Heap.get?_push_of_some _ (Heap.get?_push_size _ rfl), rfl, rfl⟩ (by rw [Heap.size_push, hz]) fun b o x => Heap.get?_push_of_some _ (Heap.get?_push_of_some _ x)⟩
/-- enumerate over a tuple, over a text -/
def IteT (K : PySem.W.Frag) (a : Addr) : It :=
  ⟨fun i H => ∃ (xs : List V) (x : V), SqT K H a xs ∧ xs[i]? = some x, fun i H v H' => ∃ T x, v = .ref T ∧ H T = none ∧ H' = upd H T (.tup [.int (i : Nat), x]) ∧ ∀ xs, SqT K H a xs → xs[i]? = some x, fun i H => ∃ xs : List V, SqT K H a xs ∧ xs.length ≤ i⟩
def IteS (z : Str) : It :=
  ⟨fun i H => i < z.cps.size, fun i H v H' => ∃ T c, v = .ref T ∧ H T = none ∧ H' = upd H T (.tup [.int (i : Nat), .str ⟨#[c]⟩]) ∧ z.cps[i]? = some c, fun i _ => z.cps.size ≤ i⟩
theorem turn_enumT {P : Program} {w : World} {K : PySem.W.Frag} {elts : List Expr} {kk : Nat} {tpos : Pos} (a e it : Addr) :
    Turn P w K (.Tuple elts kk tpos) (IteT K a) [e, it] e (fun i h => (∃ old, IsEnum h e it ((i : Nat) : Int) old) ∧ h.IsTupleIter it a i ∧ e ≠ it) where
  mem := by simp
  obj := fun i h st b hb => by
    obtain ⟨⟨old, he⟩, ⟨o, ho, hc, hd⟩, _⟩ := st
    have e' : b = e ∨ b = it := by simpa using hb
    rcases e' with z | z
    · rw [z]; exact ⟨_, he, fun v q => nomatch q⟩
    · rw [z]; exact ⟨o, ho, fun v q => by rw [hd] at q; cases q⟩
  keep := fun i h h' st k => let ⟨⟨old, he⟩, hi, hne⟩ := st; ⟨⟨old, k e (by simp) _ he⟩, hi.at fun o q => k it (by simp) o q, hne⟩
  item := by
    intro X hP hw hK hc i pins s σ H E I hf st hg
    subst hP hw hK
    obtain ⟨⟨old, he⟩, hit, hne⟩ := st
    obtain ⟨xs, x, hq, hx⟩ := hg
    obtain ⟨its, rv, p, hz⟩ := I.tuple hq
    obtain ⟨u, hu, ru⟩ := rv.get hx
    have hel : e < s.heap.objs.size := Heap.lt_size he
    have hil : it < s.heap.objs.size := by obtain ⟨_, q, _⟩ := hit; exact Heap.lt_size q
    have hae : a ≠ e := fun z => by
      obtain ⟨o, ho, hc', _⟩ := p
      rw [z, he] at ho
      cases ho
      exact absurd (Value.type.inj hc') (by decide)
    have hai : a ≠ it := fun z => by
      obtain ⟨o, ho, hc', _⟩ := p
      obtain ⟨o2, ho2, hc2, _⟩ := hit
      rw [z, ho2] at ho
      cases ho
      rw [hc2] at hc'
      exact absurd hc' (by decide)
    have D := Draws.tuple (prog := X.prog) (w := X.w) (A := X.A.in1) (I.ok.hd hc) it a hai its.toArray
    have hlt : i < its.toArray.size := by
      rw [List.size_toArray]
      exact (List.getElem?_eq_some_iff.mp hu).1
    refine wpAny_pyNext_enum_itemD D he ⟨hit, p⟩ hlt hne (by simp; exact ⟨hne, fun z => hae z.symm⟩) fun x' h' tk hx' ho hst' hT hsz hk => ?_
    have ex : x' = u := by
      have : its.toArray[i]? = some u := by simpa using hu
      rw [this] at hx'
      exact (Option.some.inj hx').symm
    subst ex
    refine ⟨_, rfl, wpAny_letOwnedTupleGo_enum (s := { s with heap := h', toks := tk + 1 }) ho fun h'' he' sb => ?_⟩
    have hT2 : h''.get? s.heap.objs.size = some { cls := .type "tuple", data := .seq #[.int i tk, x'] } := (sb.2 _ (Nat.ne_of_gt hel)).trans hT
    have new : ObjOk X.prog X.w (upd H s.heap.objs.size (.tup [.int (i : Nat), x])) h'' s.heap.objs.size (.tup [.int (i : Nat), x]) :=
      ⟨by show 2 ≤ sizeLine; decide, [.int i tk, x'], .cons ⟨_, rfl⟩ (.cons ru .nil), ⟨_, hT2, rfl, _, rfl⟩⟩
    have I1 : Inv X pins σ (upd H s.heap.objs.size (.tup [.int (i : Nat), x])) { s with heap := h'', toks := tk + 1 } :=
      I.turnedNew (ch := [e, it]) (fun b ob hb q => (sb.2 b (fun z => hb (by simp [z]))).trans (hk b ob (fun z => hb (by simp [z])) (fun z => hb (by simp [z])) q)) hf (Nat.le_refl _) new
    refine ⟨.ref s.heap.objs.size, _, I1, rfl, ⟨_, x, rfl, I.hok.fresh (Nat.le_refl _), rfl, fun ys hy => by rw [I.tuple_inj hy hq]; exact hx⟩, ⟨⟨x', ?_⟩, hst'.1.at fun o q => (sb.2 it (Ne.symm hne)).trans q, hne⟩, fun b hb => ?_⟩
    · have e1 : ((i + 1 : Nat) : Int) = (i : Int) + 1 := by omega
      rw [e1]; exact he'
    · have hb' : b < s.heap.objs.size := by
        have e' : b = e ∨ b = it := by simpa using hb
        rcases e' with z | z
        · rw [z]; exact hel
        · rw [z]; exact hil
      rw [upd_ne (Nat.ne_of_lt hb')]
      exact (hf b hb).1
  done := by
    intro X hP hw hK hc i pins s σ H E I hf st hg
    subst hP hw hK
    obtain ⟨⟨old, he⟩, hit, hne⟩ := st
    obtain ⟨xs, hq, hx⟩ := hg
    obtain ⟨its, rv, p, hz⟩ := I.tuple hq
    obtain ⟨f0, f1, f2, f3, f4, f5⟩ := hf it (by simp)
    have hl := rv.length
    have hai : a ≠ it := fun z => by
      obtain ⟨o, ho, hc', _⟩ := p
      obtain ⟨o2, ho2, hc2, _⟩ := hit
      rw [z, ho2] at ho
      cases ho
      rw [hc2] at hc'
      exact absurd hc' (by decide)
    have hT : s.TypeIs (.ref e) "enumerate" := ⟨_, he, rfl⟩
    unfold pyNext
    refine wpAny_bind (wpAny_attempt (wpAny_callSpecial?_slot (name := Str.ofString "__next__") hT F.slot_enumerate_next
      (wpAny_call_entry F.slot_enumerate_next hT F.entry_enumerate_next ?_ (F.args_enumerate_next_1 _))))
    show wpAny _ _ (field (.ref e) 2 >>= _) _ _ _
    refine wpAny_bind (wpAny_field he rfl (x := .ref it) rfl ?_)
    refine wpAny_bind (wpAny_nextOf_tuple_end (I.ok.hd hc) hit (show s.heap.IsTuple a its.toArray from p) (by simp; omega) fun h' x he' hx' => ?_)
    obtain ⟨o, ho, hc'⟩ := hx'
    refine wpAny_bind (wpAny_isInstance (T := "StopIteration") (b := true) ⟨o, ho, hc'⟩ isSubtype_stop ?_)
    exact wpAny_pure ⟨rfl, I.turned (t' := s.toks) (fun b o hb q => he' b o hb q) f0 f1 f3 f4 f5⟩
  self := fun A i s Q E st h => let ⟨⟨_, he⟩, _⟩ := st; wpAny_pyIter_enum he h
theorem nextOf_str_end {prog : Program} {w : World} {A : Around} {E : Value → Shared → Prop} {s : Shared} {it : Addr} {x : Str} {t : Tok} {i : Nat} {Q : Value → Shared → Prop} (hh : A.handled = none)
    (hit : s.heap.IsStrIter it (strIterType x) x t i) (hx : x.cps[i]? = none)
    (hE : ∀ h' e, Heap.ExtBut it s.heap h' → (∃ o, h'.get? e = some o ∧ o.cls = .type "StopIteration") → E (.ref e) { s with heap := h' }) :
    wpAny (model prog w) A (Builtin.SmallTypes.nextOf (.ref it)) Q E s := by
  unfold strIterType at hit
  cases h : x.cps.all (· < 128) with
  | true => rw [h] at hit; exact wpAny_nextOf_ascii_end hh hit hx hE
  | false => rw [h] at hit; exact wpAny_nextOf_wide_end hh hit hx hE
theorem turn_enumS {P : Program} {w : World} {K : PySem.W.Frag} {elts : List Expr} {kk : Nat} {tpos : Pos} (z : Str) (t : Tok) (e it : Addr) :
    Turn P w K (.Tuple elts kk tpos) (IteS z) [e, it] e (fun i h => (∃ old, IsEnum h e it ((i : Nat) : Int) old) ∧ h.IsStrIter it (strIterType z) z t i ∧ e ≠ it) where
  mem := by simp
  obj := fun i h st b hb => by
    obtain ⟨⟨old, he⟩, ⟨o, ho, hc, hd⟩, _⟩ := st
    have e' : b = e ∨ b = it := by simpa using hb
    rcases e' with z | z
    · rw [z]; exact ⟨_, he, fun v q => nomatch q⟩
    · rw [z]; exact ⟨o, ho, fun v q => by rw [hd] at q; cases q⟩
  keep := fun i h h' st k => let ⟨⟨old, he⟩, hi, hne⟩ := st; ⟨⟨old, k e (by simp) _ he⟩, let ⟨o, ho, r⟩ := hi; ⟨o, k it (by simp) o ho, r⟩, hne⟩
  item := by
    intro X hP hw hK hc i pins s σ H E I hf st hg
    subst hP hw hK
    obtain ⟨⟨old, he⟩, hit, hne⟩ := st
    have hel : e < s.heap.objs.size := Heap.lt_size he
    have hil : it < s.heap.objs.size := by obtain ⟨_, q, _⟩ := hit; exact Heap.lt_size q
    have D := Draws.text (prog := X.prog) (w := X.w) (A := X.A.in1) (I.ok.hd hc) it z t
    refine wpAny_pyNext_enum_itemD D he hit (show i < z.cps.size from hg) hne (by simpa using hne) fun x' h' tk hx' ho hst' hT hsz hk => ?_
    obtain ⟨c, u, hcc, rfl⟩ := hx'
    refine ⟨_, rfl, wpAny_letOwnedTupleGo_enum (s := { s with heap := h', toks := tk + 1 }) ho fun h'' he' sb => ?_⟩
    have hT2 : h''.get? s.heap.objs.size = some { cls := .type "tuple", data := .seq #[.int i tk, .str ⟨#[c]⟩ u] } := (sb.2 _ (Nat.ne_of_gt hel)).trans hT
    have new : ObjOk X.prog X.w (upd H s.heap.objs.size (.tup [.int (i : Nat), .str ⟨#[c]⟩])) h'' s.heap.objs.size (.tup [.int (i : Nat), .str ⟨#[c]⟩]) :=
      ⟨by show 2 ≤ sizeLine; decide, [.int i tk, .str ⟨#[c]⟩ u], .cons ⟨_, rfl⟩ (.cons ⟨_, rfl⟩ .nil), ⟨_, hT2, rfl, _, rfl⟩⟩
    have I1 : Inv X pins σ (upd H s.heap.objs.size (.tup [.int (i : Nat), .str ⟨#[c]⟩])) { s with heap := h'', toks := tk + 1 } :=
      I.turnedNew (ch := [e, it]) (fun b ob hb q => (sb.2 b (fun z => hb (by simp [z]))).trans (hk b ob (fun z => hb (by simp [z])) (fun z => hb (by simp [z])) q)) hf (Nat.le_refl _) new
    refine ⟨.ref s.heap.objs.size, _, I1, rfl, ⟨_, c, rfl, I.hok.fresh (Nat.le_refl _), rfl, hcc⟩, ⟨⟨.str ⟨#[c]⟩ u, ?_⟩, let ⟨o, ho, r⟩ := hst'; ⟨o, (sb.2 it (Ne.symm hne)).trans ho, r⟩, hne⟩, fun b hb => ?_⟩
    · have e1 : ((i + 1 : Nat) : Int) = (i : Int) + 1 := by omega
      rw [e1]; exact he'
    · have hb' : b < s.heap.objs.size := by
        have e' : b = e ∨ b = it := by simpa using hb
        rcases e' with z | z
        · rw [z]; exact hel
        · rw [z]; exact hil
      rw [upd_ne (Nat.ne_of_lt hb')]
      exact (hf b hb).1
  done := by
    intro X hP hw hK hc i pins s σ H E I hf st hg
    subst hP hw hK
    obtain ⟨⟨old, he⟩, hit, hne⟩ := st
    obtain ⟨f0, f1, f2, f3, f4, f5⟩ := hf it (by simp)
    have hT : s.TypeIs (.ref e) "enumerate" := ⟨_, he, rfl⟩
    have hN : z.cps[i]? = none := Array.getElem?_eq_none (show z.cps.size ≤ i from hg)
    unfold pyNext
    refine wpAny_bind (wpAny_attempt (wpAny_callSpecial?_slot (name := Str.ofString "__next__") hT F.slot_enumerate_next
      (wpAny_call_entry F.slot_enumerate_next hT F.entry_enumerate_next ?_ (F.args_enumerate_next_1 _))))
    show wpAny _ _ (field (.ref e) 2 >>= _) _ _ _
    refine wpAny_bind (wpAny_field he rfl (x := .ref it) rfl ?_)
    refine wpAny_bind (nextOf_str_end (I.ok.hd hc) hit hN fun h' x he' hx' => ?_)
    obtain ⟨o, ho, hc'⟩ := hx'
    refine wpAny_bind (wpAny_isInstance (T := "StopIteration") (b := true) ⟨o, ho, hc'⟩ isSubtype_stop ?_)
    exact wpAny_pure ⟨rfl, I.turned (t' := s.toks) (fun b o hb q => he' b o hb q) f0 f1 f3 f4 f5⟩
  self := fun A i s Q E st h => let ⟨⟨_, he⟩, _⟩ := st; wpAny_pyIter_enum he h
end DS
/-! DS10: enumerate; calls by keywords; two fors. -/
namespace DS
open PySem PySem.Spec PyProof.Rows L2

/-! ### enumerate -/
def iEnumA (K : PySem.W.Frag) (ta : TA) : TI := fun σ H R => ta σ H fun vs H1 => ∃ v, vs = [v] ∧ ((∃ a xs, v = .ref a ∧ SqL K H1 a xs ∧ R (Ite K a) H1) ∨ (∃ a xs, v = .ref a ∧ SqT K H1 a xs ∧ R (IteT K a) H1) ∨ (∃ z, v = .str z ∧ R (IteS z) H1))
theorem pi_enumA {X : Cx} {e : Expr} {ta : TA} {p pos tpos : Pos} {elts : List Expr} {kk : Nat} (hg : Gl X "enumerate") (hm : X.mg "enumerate" = none) (ha : PA X [e] ta) (hs : starEach [e] X.env = [(false, eval e X.env)] := by rfl) :
    PI X (.Tuple elts kk tpos) (.Call (.Name "enumerate" p) [e] [] pos) (iEnumA X.K ta) := by
  refine ⟨fun pins s σ H R I h => ?_⟩
  refine Call_ (ld_blt I hg hm boot_enumerate (PyProof.Rows.callWith_type1 (thn (ha.run pos pins s σ H _ I h) fun us s1 ⟨vs, H1, I1, r1, q1⟩ => ?_) hs rfl))
  obtain ⟨v, ex, hq⟩ := q1
  subst ex
  cases r1 with
  | cons r rr =>
    cases rr
    have fp : ∀ b, b = s1.heap.objs.size + 1 ∨ b = s1.heap.objs.size → FpOk X pins H1 b := fun b e' => by
      have hle : s1.heap.objs.size ≤ b := by
        rcases e' with z | z
        · rw [z]; exact Nat.le_add_right _ _
        · rw [z]; exact Nat.le_refl _
      exact I1.fpOk hle (I1.hok.fresh hle)
    rcases hq with ⟨a, xs, rfl, hq, q⟩ | ⟨a, xs, rfl, hq, q⟩ | ⟨z, rfl, q⟩
    · cases r
      obtain ⟨its, rv, p', hz⟩ := I1.list hq
      refine call_enumerate_list p'.isList fun h' he hit hsz hk => wpAny_pyIter_enum he ?_
      exact ⟨s1.heap.objs.size + 1, [s1.heap.objs.size + 1, s1.heap.objs.size], _, _, H1, rfl, I1.kept (t' := s1.toks) hk, turn_enum a (s1.heap.objs.size + 1) s1.heap.objs.size, ⟨⟨.none, he⟩, hit, Nat.succ_ne_self _⟩, fun b hb => fp b (by simpa using hb), q⟩
    · cases r
      obtain ⟨its, rv, p', hz⟩ := I1.tuple hq
      refine call_enumerate_tuple (items := its.toArray) p' fun h' he hit hsz hk => wpAny_pyIter_enum he ?_
      exact ⟨s1.heap.objs.size + 1, [s1.heap.objs.size + 1, s1.heap.objs.size], _, _, H1, rfl, I1.kept (t' := s1.toks) hk, turn_enumT a (s1.heap.objs.size + 1) s1.heap.objs.size, ⟨⟨.none, he⟩, hit, Nat.succ_ne_self _⟩, fun b hb => fp b (by simpa using hb), q⟩
    · obtain ⟨t, rfl⟩ := r
      refine call_enumerate_str fun h' he hit hsz hk => wpAny_pyIter_enum he ?_
      exact ⟨s1.heap.objs.size + 1, [s1.heap.objs.size + 1, s1.heap.objs.size], _, _, H1, rfl, I1.kept (t' := s1.toks) hk, turn_enumS z t (s1.heap.objs.size + 1) s1.heap.objs.size, ⟨⟨.none, he⟩, hit, Nat.succ_ne_self _⟩, fun b hb => fp b (by simpa using hb), q⟩
/-- numbered from i on -/
def numd : Nat → List D → List D
  | _, [] => []
  | i, d :: ds => .tup [.int (i : Nat), d] :: numd (i + 1) ds
theorem numd_len : ∀ (i : Nat) (ds : List D), (numd i ds).length = ds.length
  | _, [] => rfl
  | i, d :: ds => by unfold numd; rw [List.length_cons, List.length_cons, numd_len]
theorem numd_get : ∀ {i j : Nat} {ds : List D} {d : D}, (numd i ds)[j]? = some d → ∃ x, ds[j]? = some x ∧ d = .tup [.int ((i + j : Nat) : Int), x]
  | i, 0, x :: ds, d, e => by
    unfold numd at e
    rw [List.getElem?_cons_zero] at e
    cases e
    exact ⟨x, rfl, rfl⟩
  | i, j + 1, x :: ds, d, e => by
    unfold numd at e
    rw [List.getElem?_cons_succ] at e
    obtain ⟨y, e1, e2⟩ := numd_get e
    exact ⟨y, by rw [List.getElem?_cons_succ]; exact e1, by rw [e2, show i + 1 + j = i + (j + 1) by omega]⟩
  | _, _, [], _, e => by unfold numd at e; cases e
theorem it_enumL {K : PySem.W.Frag} {a : Addr} {ds : List D} (l : ds.length ≤ sizeLine) : ItOk K (Ite K a) (numd 0 ds) (fun c H => ∃ xs, NL K c H a xs ∧ AtL K c H xs ds) where
  len := by rw [numd_len]; exact l
  evo := fun c H c' H' ⟨xs, h, r⟩ e => ⟨xs, h.evo e, r.evo e⟩
  goes := fun i c H hi ⟨xs, h, r⟩ => by
    rw [numd_len] at hi
    have hi' : i < xs.length := by rw [r.length]; exact hi
    exact ⟨xs, xs[i], h.sq, List.getElem?_eq_getElem hi'⟩
  stops := fun c H ⟨xs, h, r⟩ => ⟨xs, h.sq, by rw [numd_len]; exact Nat.le_of_eq r.length⟩
  ylds := fun i c H x H' d e ⟨xs, h, r⟩ ho ⟨T, y, e1, hT, e2, e3⟩ => by
    subst e1 e2
    obtain ⟨z, f1, rfl⟩ := numd_get e
    rw [Nat.zero_add]
    exact ⟨ho.new hT, ho.tup hT (by show 2 ≤ sizeLine; decide) (.cons (.int _) (.cons (r.get (e3 xs h.sq) f1) .nil))⟩
theorem it_enumT {K : PySem.W.Frag} {a : Addr} {ds : List D} (l : ds.length ≤ sizeLine) : ItOk K (IteT K a) (numd 0 ds) (fun c H => ∃ xs, NT K c H a xs ∧ AtL K c H xs ds) where
  len := by rw [numd_len]; exact l
  evo := fun c H c' H' ⟨xs, h, r⟩ e => ⟨xs, h.evo e, r.evo e⟩
  goes := fun i c H hi ⟨xs, h, r⟩ => by
    rw [numd_len] at hi
    have hi' : i < xs.length := by rw [r.length]; exact hi
    exact ⟨xs, xs[i], h.sq, List.getElem?_eq_getElem hi'⟩
  stops := fun c H ⟨xs, h, r⟩ => ⟨xs, h.sq, by rw [numd_len]; exact Nat.le_of_eq r.length⟩
  ylds := fun i c H x H' d e ⟨xs, h, r⟩ ho ⟨T, y, e1, hT, e2, e3⟩ => by
    subst e1 e2
    obtain ⟨z, f1, rfl⟩ := numd_get e
    rw [Nat.zero_add]
    exact ⟨ho.new hT, ho.tup hT (by show 2 ≤ sizeLine; decide) (.cons (.int _) (.cons (r.get (e3 xs h.sq) f1) .nil))⟩
theorem signs_len (z : Str) : (signs z).length = z.cps.size := by unfold signs; rw [List.length_map, Array.length_toList]
theorem it_enumS {K : PySem.W.Frag} {z : Str} (l : SOk z) : ItOk K (IteS z) (numd 0 (signs z)) (fun _ _ => True) where
  len := by rw [numd_len, signs_len]; exact l.1
  evo := fun _ _ _ _ _ _ => trivial
  goes := fun i c H hi _ => by rw [numd_len, signs_len] at hi; exact hi
  stops := fun c H _ => by rw [numd_len, signs_len]; exact Nat.le_refl _
  ylds := fun i c H x H' d e _ ho ⟨T, y, e1, hT, e2, e3⟩ => by
    subst e1 e2
    obtain ⟨w, f1, rfl⟩ := numd_get e
    unfold signs at f1
    rw [List.getElem?_map, Array.getElem?_toList, e3] at f1
    cases f1
    rw [Nat.zero_add]
    exact ⟨ho.new hT, ho.tup hT (by show 2 ≤ sizeLine; decide) (.cons (.int _) (.cons (.str _ (sok_sign l (Array.mem_toList_iff.mpr (Array.mem_of_getElem? e3)))) .nil))⟩
def iEnum (ma : WA) : WI := ⟨fun r R => ma r fun ds => ∃ d l, ds = [d] ∧ items d = some l ∧ R (numd 0 l), ma.n⟩
theorem di_enum {g : G} {e : Expr} {ma : WA} {p pos tpos : Pos} {elts : List Expr} {kk : Nat} (hm : g.mg "enumerate" = none) (h : DA g [e] ma) (hg : g.sc.names.lookup ("enumerate" : Str) = some .globalImplicit := by rfl) (hs : ∀ env, starEach [e] env = [(false, eval e env)] := by intro _; rfl) :
    DI g (.Tuple elts kk tpos) (.Call (.Name "enumerate" p) [e] [] pos) (iEnum ma) := by
  obtain ⟨t, q⟩ := h
  refine ⟨fun E => iEnumA g.K (t E), fun y ok => ⟨pi_enumA (X := g.cx y) (ok.gl hg) hm (q y ok).1 (hs _), ?_⟩⟩
  intro B c0 c ad H0 s H r R Q cf bd hm k
  refine (q y ok).2 B c0 c ad H0 s H r _ _ cf bd hm fun ds vs H' hR _ s1 a1 => ?_
  obtain ⟨d, l, rfl, e1, hR⟩ := hR
  cases a1 with
  | cons b1 b2 =>
    cases b2
    refine ⟨_, rfl, ?_⟩
    cases b1 with
    | lst h l r1 => cases e1; exact .inl ⟨_, _, rfl, h.sq, k _ _ _ H' hR s1 (it_enumL (by rw [← r1.length]; exact l)) ⟨_, h, r1⟩⟩
    | tup h l r1 => cases e1; exact .inr (.inl ⟨_, _, rfl, h.sq, k _ _ _ H' hR s1 (it_enumT (by rw [← r1.length]; exact l)) ⟨_, h, r1⟩⟩)
    | str z hz => cases e1; exact .inr (.inr ⟨_, rfl, k _ _ _ H' hR s1 (it_enumS hz) trivial⟩)
    | _ => cases e1

/-! ### calls with keywords alone -/
/-- the values in another sequence -/
def picks {α : Type} (pm : List Nat) (xs : List α) : List α := pm.filterMap (xs[·]?)
theorem picks_vals {vs : List V} {us : List Value} (r : Vals vs us) : ∀ pm : List Nat, Vals (picks pm vs) (picks pm us)
  | [] => .nil
  | i :: pm => by
    unfold picks
    rw [List.filterMap_cons, List.filterMap_cons]
    by_cases h : i < vs.length
    · obtain ⟨u, e, ru⟩ := r.get (List.getElem?_eq_getElem h)
      rw [List.getElem?_eq_getElem h, e]
      exact .cons ru (picks_vals r pm)
    · rw [List.getElem?_eq_none (by omega), List.getElem?_eq_none (by rw [← r.length]; omega)]
      exact picks_vals r pm
theorem picks_at {K : PySem.W.Frag} {c : Co} {H : Hp} {vs : List V} {ds : List D} (a : AtL K c H vs ds) : ∀ pm : List Nat, AtL K c H (picks pm vs) (picks pm ds)
  | [] => .nil
  | i :: pm => by
    unfold picks
    rw [List.filterMap_cons, List.filterMap_cons]
    by_cases h : i < ds.length
    · obtain ⟨u, e, ru⟩ := a.some_of (List.getElem?_eq_getElem h)
      rw [List.getElem?_eq_getElem h, e]
      exact .cons ru (picks_at a pm)
    · rw [List.getElem?_eq_none (show vs.length ≤ i by rw [a.length]; omega), List.getElem?_eq_none (show ds.length ≤ i by omega)]
      exact picks_at a pm
structure FnKW (P : Program) (w : World) (K : PySem.W.Frag) (mg : Str → Option Value) (base : Heap) (k : Nat) (x : Str) (ks : List Str) (pm : List Nat) (n : Nat) (F : WFn) (T : List (Addr × Str) := []) : Prop where
  ex : ∃ f fd ps, ps.length = n ∧ FnOk P w K mg base L2.CX0 k f fd ps (spW K n F T) ∧ mg x = some (.ref f) ∧ PySem.W.keepIn K (.ref f) = true ∧
    ∀ (s : Shared) (ws : List Value), K.In s.heap → ws.length = ks.length → (picks pm ws).length = ps.length → BindsTo s fd ⟨[], ks.zip ws⟩ (ps.zip (picks pm ws))
theorem FnKW.mono {P : Program} {w : World} {K : PySem.W.Frag} {mg : Str → Option Value} {base : Heap} {j k : Nat} {x : Str} {ks : List Str} {pm : List Nat} {n : Nat} {F : WFn} {T : List (Addr × Str)} (h : FnKW P w K mg base j x ks pm n F T) (hj : j ≤ k) : FnKW P w K mg base k x ks pm n F T := by
  obtain ⟨f, fd, ps, l, F1, r⟩ := h.ex
  exact ⟨⟨f, fd, ps, l, F1.mono hj, r⟩⟩
theorem FnKW.imp {P : Program} {w : World} {K : PySem.W.Frag} {mg : Str → Option Value} {base : Heap} {k : Nat} {x : Str} {ks : List Str} {pm : List Nat} {n : Nat} {F F' : WFn} {T : List (Addr × Str)} (h : FnKW P w K mg base k x ks pm n F T) (hn : F.n ≤ F'.n) (hi : ∀ ds R, ds.length = n → F' ds R → F ds R) : FnKW P w K mg base k x ks pm n F' T := by
  obtain ⟨f, fd, ps, l, F1, r⟩ := h.ex
  exact ⟨⟨f, fd, ps, l, F1.imp fun vs H Q E ⟨c, ds, R, h1, h2, h3, hb, h4, h5⟩ => ⟨c, ds, R, h1, h2, h3, ⟨by have := hb.1; omega, hb.2⟩, hi ds R h3 h4, fun d v H' q st => h5 d v H' q (st.mono hn)⟩, r⟩⟩
/-- the values of the keywords -/
def DK (g : G) (kws : List Keyword) (m : WA) : Prop := ∃ t : EX → TA, ∀ y, g.Ok y → PK (g.cx y) kws (t y.E) ∧ SemA g.K y.E kws.length m (t y.E)
theorem dk_nil {g : G} : DK g [] aNil := ⟨fun _ => tNil, fun _ _ => ⟨pk_nil, sem_nil⟩⟩
theorem dk_cons {g : G} {e : Expr} {kws : List Keyword} {m : WE} {ma : WA} {nm : Option Str} {kpos : Pos} (h : DE g e m) (h2 : DK g kws ma) : DK g (⟨nm, e, kpos⟩ :: kws) (aCons m ma) :=
  let ⟨t, p⟩ := h; let ⟨t2, p2⟩ := h2; ⟨fun E => tCons (t E) (t2 E), fun y ok => ⟨pk_cons (p y ok).1 (p2 y ok).1, sem_cons (p y ok).2 (p2 y ok).2⟩⟩
def tCallK0 (sp : Sp) (pm : List Nat) (n : Nat) (tk : TA) : TE := fun σ H Q => tk σ H fun zs H2 => zs.length = n ∧ sp (picks pm zs) H2 Q L2.E0
theorem pe_callK0 {X : Cx} {k : Nat} {f : Addr} {fd : FuncData} {ps ks : List Str} {pm : List Nat} {sp : Sp} {x : Str} {p pos : Pos} {kws : List Keyword} {tk : TA} (F : FnOk X.prog X.w X.K X.mg X.base L2.CX0 k f fd ps sp) (hr : Room k X.A) (hg : Gl X x) (hm : X.mg x = some (.ref f)) (hk : PySem.W.keepIn X.K (.ref f) = true)
    (hb : ∀ (s : Shared) (ws : List Value), X.K.In s.heap → ws.length = ks.length → (picks pm ws).length = ps.length → BindsTo s fd ⟨[], ks.zip ws⟩ (ps.zip (picks pm ws)))
    (hkw : PK X kws tk) (hall : (backToKw pos (keywordEach kws X.env)).all (·.1.isSome) = true) (hks : (backToKw pos (keywordEach kws X.env)).filterMap (·.1) = ks)
    (hdb : (x == ("__debug__" : Str)) = false) (hpl : ((backTo pos (starEach [] X.env)).any (·.1) || (backToKw pos (keywordEach kws X.env)).any (·.1.isNone)) = false) :
    PE X (.Call (.Name x p) [] kws pos) (tCallK0 sp pm ks.length tk) := by
  refine ⟨fun pins s σ H Q I h => ?_⟩
  refine wpAny_Call_Name_kw (ld_glob I hg hm ?_ hdb)
  refine PySem.W.callWith_KW0 (h₀ := X.base) I.ok.mod.kin hk hall (thn (hkw.run pos pins s σ H _ I h) fun ws s2 ⟨zs, H2, I2, rz, hn, q2⟩ => ⟨I2.kIn, ?_⟩) hpl
  rw [hks]
  have r2 := picks_vals rz pm
  have hl : (picks pm ws).length = ps.length := by rw [← r2.length]; exact F.len _ _ _ _ q2
  have hw : ws.length = ks.length := by rw [← rz.length]; exact hn
  refine wpAny_call (codeAny_mono (F.run X.A X.stack s2 H2 ⟨[], ks.zip ws⟩ (picks pm ws) (picks pm zs) Q L2.E0 hr I2.env0 (hb s2 ws I2.kIn hw hl) r2 q2) fun r s' hq => ?_)
  cases r with
  | error e => exact absurd hq (by first | exact id | exact fun z => z.elim)
  | ok fl =>
    cases fl with
    | ret u => exact I2.after hq
    | next => exact False.elim hq
    | brk => exact False.elim hq
    | cont => exact False.elim hq
def eCallK (pm : List Nat) (F : WFn) (a : WA) : WE := ⟨fun r R => a r fun ds => F (picks pm ds) R, a.n + F.n⟩
theorem de_callK {g : G} {x : Str} {j n : Nat} {ks : List Str} {pm : List Nat} {F : WFn} {kws : List Keyword} {ma : WA} {p pos : Pos} (hf : FnKW g.P g.w g.K g.mg g.base j x ks pm n F g.T) (ha : DK g kws ma) (hj : j ≤ g.k := by exact Nat.le_of_ble_eq_true rfl) (hg : g.sc.names.lookup x = some .globalImplicit := by rfl)
    (hl : kws.length = ks.length := by rfl) (hn : pm.length = n := by rfl) (hlt : ∀ i ∈ pm, i < ks.length := by decide)
    (hall : ∀ env, (backToKw pos (keywordEach kws env)).all (·.1.isSome) = true := by intro _; rfl) (hks : ∀ env, (backToKw pos (keywordEach kws env)).filterMap (·.1) = ks := by intro _; rfl)
    (hd : (x == ("__debug__" : Str)) = false := by decide) (hpl : ∀ env, ((backTo pos (starEach [] env)).any (·.1) || (backToKw pos (keywordEach kws env)).any (·.1.isNone)) = false := by intro _; rfl) : DE g (.Call (.Name x p) [] kws pos) (eCallK pm F ma) := by
  obtain ⟨t, q⟩ := ha
  obtain ⟨f, fd, ps, l, F1, hm, hk, hb⟩ := hf.ex
  refine ⟨fun E => tCallK0 (spW g.K n F g.T) pm ks.length (t E), fun y ok => ⟨pe_callK0 (X := g.cx y) F1 (ok.room.mono hj) (ok.gl hg) hm hk hb (q y ok).1 (hall _) (hks _) hd (hpl _), ?_⟩⟩
  intro B c0 c ad H0 s H rr R Q cf bd hm k
  refine (q y ok).2 B c0 c ad H0 s H rr _ _ cf (bd1 bd) hm fun ds vs H1 hx hn' s1 a1 => ?_
  have cf1 := cf.step s1
  have hvl : vs.length = ks.length := by rw [a1.length, hn', hl]
  refine ⟨hvl, c, picks pm ds, R, cf1.ho, picks_at a1 pm, ?_, ⟨Nat.le_trans (bd2 bd s1.3) cf.top, cf.sT.trans (cf.tT.trans ok.tb)⟩, hx, fun d v H' hR s2 a2 => k d v H' hR (s1.trans s2) a2⟩
  have key : ∀ l : List Nat, (∀ i ∈ l, i < ks.length) → (picks l ds).length = l.length := by
    intro l
    induction l with
    | nil => intro _; rfl
    | cons i l ih =>
      intro h
      unfold picks
      rw [List.filterMap_cons, List.getElem?_eq_getElem (show i < ds.length by rw [hn', hl]; exact h i List.mem_cons_self)]
      show (picks l ds).length + 1 = _
      rw [ih fun j hj => h j (List.mem_cons_of_mem _ hj), List.length_cons]
  rw [key pm hlt, hn]
end DS
/-! DS11: comprehensions with two fors. -/
namespace DS
open PySem PySem.Spec PyProof.Rows L2

def lcW2 (mg : WG) (mc : WT) (mi1 : WI) (mg1 : WG) (mc1 : WT) (me : WE) (vs1 : List Nat) (r : Env) (k : List D → Prop) : List D → List D → Prop
  | [], out => k out
  | d :: ds, out => mg d r fun r1 => mc r1 fun b => if b = true then mi1 r1 fun ds1 => ds1.length ≤ 4096 ∧ lcW mg1 mc1 me (wipeE r1 vs1) (fun out' => lcW2 mg mc mi1 mg1 mc1 me vs1 r k ds out') ds1 out else lcW2 mg mc mi1 mg1 mc1 me vs1 r k ds out
def fLc2 (mi : WI) (mg : WG) (mc : WT) (mi1 : WI) (mg1 : WG) (mc1 : WT) (me : WE) (vs vs1 : List Nat) : WF := ⟨fun r R => mi r fun ds => ds.length ≤ 4096 ∧ lcW2 mg mc mi1 mg1 mc1 me vs1 (wipeE r vs) (fun out => R (.ol out)) ds [], mi.n + 4096 * (mc.n + (mi1.n + 4096 * (mc1.n + me.n)))⟩
theorem sem_flc2 {K : PySem.W.Frag} {E : EX} {mi mi1 : WI} {mg mg1 : WG} {mc mc1 : WT} {me : WE} {ws vs ws1 vs1 : List Nat} {wi wi1 : TI} {gt gt1 : TG} {tt tt1 : TT} {te : TE} (hv : ∀ i ∈ ws, i ∈ vs) (hv1 : ∀ i ∈ ws1, i ∈ vs1) (hi : SemI K E mi wi) (hg : SemG K E mg ws gt) (ht : SemT K E mc tt)
    (hi1 : SemI K E mi1 wi1) (hg1 : SemG K E mg1 ws1 gt1) (ht1 : SemT K E mc1 tt1) (he : SemE K E me te) : SemF K E (fLc2 mi mg mc mi1 mg1 mc1 me vs vs1) (tLc2 wi gt tt wi1 gt1 tt1 te vs vs1) := by
  intro B c0 c ad H0 s H r R Q cf bd hm k
  refine hi B c0 c ad H0 s H r _ _ cf (bd1 bd) hm fun ds J S H1 hR s1 I hS => ?_
  obtain ⟨hlen, hR⟩ := hR
  have cf1 := cf.step s1
  have s1l := s1.3
  have bd' : trn c.sd H + (mi.n + 4096 * (mc.n + (mi1.n + 4096 * (mc1.n + me.n)))) ≤ B := bd
  have kk : ∀ i, i ≤ ds.length → trn c.sd H1 + i * (mc.n + (mi1.n + 4096 * (mc1.n + me.n))) ≤ trn c.sd H + (mi.n + 4096 * (mc.n + (mi1.n + 4096 * (mc1.n + me.n)))) := fun i hi => by
    have : i * (mc.n + (mi1.n + 4096 * (mc1.n + me.n))) ≤ 4096 * (mc.n + (mi1.n + 4096 * (mc1.n + me.n))) := Nat.mul_le_mul_right _ (by omega)
    omega
  intro p hp
  have h0p : Fr H0 p := cf1.st.free0 hp
  obtain ⟨g0, cl0, l0, t0, z1, z2, z3, _⟩ := cf1.inv
  have n1 : p ≠ c.sd := fun z => by rw [← z, hp] at z1; cases z1
  have n2 : p ≠ c.sg := fun z => by rw [← z, hp] at z2; cases z2
  have n3 : p ≠ c.sl := fun z => by rw [← z, hp] at z3; cases z3
  have hown : ∀ (r' : Env), (∀ (i : Nat) (x : Sl), r'.sl[i]? = some x → x.own → r.sl[i]? = some x) → ∀ (i : Nat) (x : Sl), r'.sl[i]? = some x → x.own → ad i ≠ p := fun r' hr' i x e o z => by
    obtain ⟨u, q, _⟩ := cf1.dom _ (cf1.own i x (hr' i x e o) o).1
    rw [z, hp] at q; cases q
  have hsub : ∀ (i : Nat) (x : Sl), (wipeE r vs).sl[i]? = some x → x.own → r.sl[i]? = some x := fun i x e o => by
    rcases wipeL_get e with q | ⟨q, _⟩
    · subst q; exact o.elim
    · exact q
  have hbig : 4096 * 4096 ≤ sizeLine := by rw [sizeLine_eq]; decide
  refine ⟨fun i m H2 => m = ds.length - i ∧ i ≤ ds.length ∧ ∃ xs out, H2 p = some (.lst xs) ∧ xs.length ≤ i * 4096 ∧ AtL K (c.with p) H2 xs out ∧ Cf K B c0 (c.with p) ad H0 E (wipe s vs) H2 (wipeE r vs) ∧ S (c.with p) H2 ∧ (∀ b o, H1 b = some o → b ≠ c.sd → b ≠ c.sg → nT o → H2 b = some o) ∧ trn c.sd H2 ≤ trn c.sd H1 + i * (mc.n + (mi1.n + 4096 * (mc1.n + me.n))) ∧ lcW2 mg mc mi1 mg1 mc1 me vs1 (wipeE r vs) (fun out => R (.ol out)) (ds.drop i) out,
    ⟨ds.length, by simp, Nat.zero_le _, [], [], upd_same, Nat.zero_le _, .nil, (cf1.wipe vs).with hp nTL, I.evo _ _ _ _ hS (evo_with hp), fun b o e _ _ _ => by rw [upd_ne (ne_of_none e hp)]; exact e, by rw [trn_new cf1.inv hp]; exact Nat.le_add_right _ _, hR⟩, ?_⟩
  rintro i m H2 ⟨rfl, hle, xs, out, hx, hxl, hxa, cf2, hS2, fr, le, hW⟩
  by_cases hlt : i < ds.length
  · refine .inr ⟨I.goes i _ H2 hlt hS2, fun H' => ∃ xs out, H' p = some (.lst xs) ∧ xs.length ≤ (i + 1) * 4096 ∧ AtL K (c.with p) H' xs out ∧ Cf K B c0 (c.with p) ad H0 E (L2.wipe s vs) H' (wipeE r vs) ∧ S (c.with p) H' ∧ (∀ b o, H1 b = some o → b ≠ c.sd → b ≠ c.sg → nT o → H' b = some o) ∧ trn c.sd H' ≤ trn c.sd H1 + (i + 1) * (mc.n + (mi1.n + 4096 * (mc1.n + me.n))) ∧ lcW2 mg mc mi1 mg1 mc1 me vs1 (wipeE r vs) (fun out => R (.ol out)) (ds.drop (i + 1)) out,
      fun H' q => ⟨ds.length - (i + 1), by omega, rfl, hlt, q⟩, fun x H3 y => ?_⟩
    have ed := List.drop_eq_getElem_cons hlt
    rw [ed] at hW
    obtain ⟨s3, a3⟩ := I.ylds i _ H2 x H3 ds[i] (List.getElem?_eq_getElem hlt) hS2 cf2.ho y
    have cf3 := cf2.step s3
    have e3 := cf2.evo s3
    have s3l : trn c.sd H3 ≤ trn c.sd H2 + 0 := s3.3
    have k1 := kk (i + 1) hlt
    have k2 : (i + 1) * (mc.n + (mi1.n + 4096 * (mc1.n + me.n))) = i * (mc.n + (mi1.n + 4096 * (mc1.n + me.n))) + (mc.n + (mi1.n + 4096 * (mc1.n + me.n))) := Nat.succ_mul i _
    have hx3 : H3 p = some (.lst xs) := s3.2 _ _ hx n1 n2 nTL
    refine hg B c0 _ ad H0 _ H3 _ x ds[i] _ _ cf3 a3 hW fun s' r' hr' cf4 hw4 how => ?_
    refine ⟨(hw4 vs hv).trans (wipe_idem s vs), ?_⟩
    refine ht B c0 _ ad H0 s' H3 r' _ _ cf4 (show trn c.sd H3 + mc.n ≤ B by omega) hr' fun b H4 hb s4 => ?_
    have s4l : trn c.sd H4 ≤ trn c.sd H3 + mc.n := s4.3
    have cf5 := cf4.step s4
    have hx4 : H4 p = some (.lst xs) := s4.2 _ _ hx3 n1 n2 nTL
    have e4 := cf4.evo s4
    have fr4 : ∀ b o, H1 b = some o → b ≠ c.sd → b ≠ c.sg → nT o → H4 b = some o := fun b o e m1 m2 mt => s4.2 _ _ (s3.2 _ _ (fr b o e m1 m2 mt) m1 m2 mt) m1 m2 mt
    cases b with
    | true =>
      rw [if_pos rfl] at hb ⊢
      refine hi1 B c0 _ ad H0 s' H4 r' _ _ cf5 (show trn c.sd H4 + mi1.n ≤ B by omega) hb fun ds1 J1 S1 H5 hR1 s5 I1 hS1 => ?_
      have s5l : trn c.sd H5 ≤ trn c.sd H4 + mi1.n := s5.3
      obtain ⟨hlen1, hR1⟩ := hR1
      have kk1 : ∀ j, j ≤ ds1.length → trn c.sd H5 + j * (mc1.n + me.n) ≤ trn c.sd H1 + (i + 1) * (mc.n + (mi1.n + 4096 * (mc1.n + me.n))) := fun j hj => by
        have : j * (mc1.n + me.n) ≤ 4096 * (mc1.n + me.n) := Nat.mul_le_mul_right _ (by omega)
        omega
      have cf6 := cf5.step s5
      have e5 := cf5.evo s5
      have hx5 : H5 p = some (.lst xs) := s5.2 _ _ hx4 n1 n2 nTL
      have hor : ∀ (j : Nat) (z : Sl), (wipeE r' vs1).sl[j]? = some z → z.own → ad j ≠ p := fun j z e o => by
        rcases wipeL_get e with q | ⟨q, _⟩
        · subst q; exact o.elim
        · exact hown r (fun _ _ e _ => e) j z (hsub j z (how j z q o) o) o
      have how2 : ∀ (j : Nat) (z : Sl), (wipeE r vs).sl[j]? = some z → z.own → ad j ≠ p := fun j z e o => hown r (fun _ _ e _ => e) j z (hsub j z e o) o
      have cfo := (cf3.step s4).step s5
      refine ⟨fun j m1 H6 => m1 = ds1.length - j ∧ j ≤ ds1.length ∧ ∃ xs out, H6 p = some (.lst xs) ∧ xs.length ≤ i * 4096 + j ∧ AtL K (c.with p) H6 xs out ∧ Cf K B c0 (c.with p) ad H0 E (L2.wipe s vs) H6 (wipeE r vs) ∧ Cf K B c0 (c.with p) ad H0 E (L2.wipe s' vs1) H6 (wipeE r' vs1) ∧ S (c.with p) H6 ∧ S1 (c.with p) H6 ∧
          (∀ b o, H1 b = some o → b ≠ c.sd → b ≠ c.sg → nT o → H6 b = some o) ∧ trn c.sd H6 ≤ trn c.sd H5 + j * (mc1.n + me.n) ∧ lcW mg1 mc1 me (wipeE r' vs1) (fun out' => lcW2 mg mc mi1 mg1 mc1 me vs1 (wipeE r vs) (fun out => R (.ol out)) (ds.drop (i + 1)) out') (ds1.drop j) out,
        ⟨ds1.length, by simp, Nat.zero_le _, xs, out, hx5, hxl, ((hxa.evo e3).evo e4).evo e5, cfo, cf6.wipe vs1, I.evo _ _ _ _ hS2 ((e3.trans e4).trans e5), hS1, fun b o e m1 m2 mt => s5.2 _ _ (fr4 b o e m1 m2 mt) m1 m2 mt, Nat.le_add_right _ _, hR1⟩, ?_⟩
      rintro j m1 H6 ⟨rfl, hle1, xs6, out6, hx6, hxl6, hxa6, cfo6, cfi6, hS6, hS16, fr6, le6, hW6⟩
      by_cases hlt1 : j < ds1.length
      · refine .inr ⟨I1.goes j _ H6 hlt1 hS16, fun H6 => ∃ xs out, H6 p = some (.lst xs) ∧ xs.length ≤ i * 4096 + (j + 1) ∧ AtL K (c.with p) H6 xs out ∧ Cf K B c0 (c.with p) ad H0 E (L2.wipe s vs) H6 (wipeE r vs) ∧ Cf K B c0 (c.with p) ad H0 E (L2.wipe s' vs1) H6 (wipeE r' vs1) ∧ S (c.with p) H6 ∧ S1 (c.with p) H6 ∧
          (∀ b o, H1 b = some o → b ≠ c.sd → b ≠ c.sg → nT o → H6 b = some o) ∧ trn c.sd H6 ≤ trn c.sd H5 + (j + 1) * (mc1.n + me.n) ∧ lcW mg1 mc1 me (wipeE r' vs1) (fun out' => lcW2 mg mc mi1 mg1 mc1 me vs1 (wipeE r vs) (fun out => R (.ol out)) (ds.drop (i + 1)) out') (ds1.drop (j + 1)) out,
          fun H' q => ⟨ds1.length - (j + 1), by omega, rfl, hlt1, q⟩, fun x7 H7 y7 => ?_⟩
        have ed1 := List.drop_eq_getElem_cons hlt1
        rw [ed1] at hW6
        obtain ⟨s7, a7⟩ := I1.ylds j _ H6 x7 H7 ds1[j] (List.getElem?_eq_getElem hlt1) hS16 cfi6.ho y7
        have cf7 := cfi6.step s7
        have e7 := cfi6.evo s7
        have s7l : trn c.sd H7 ≤ trn c.sd H6 + 0 := s7.3
        have k3 := kk1 (j + 1) hlt1
        have k4 : (j + 1) * (mc1.n + me.n) = j * (mc1.n + me.n) + (mc1.n + me.n) := Nat.succ_mul j _
        have hx7 : H7 p = some (.lst xs6) := s7.2 _ _ hx6 n1 n2 nTL
        refine hg1 B c0 _ ad H0 _ H7 _ x7 ds1[j] _ _ cf7 a7 hW6 fun s8 r8 hr8 cf8 hw8 how8 => ?_
        refine ⟨(hw8 vs1 hv1).trans (wipe_idem s' vs1), ?_⟩
        refine ht1 B c0 _ ad H0 s8 H7 r8 _ _ cf8 (show trn c.sd H7 + mc1.n ≤ B by omega) hr8 fun b H9 hb9 s9 => ?_
        have s9l : trn c.sd H9 ≤ trn c.sd H7 + mc1.n := s9.3
        have cf9 := cf8.step s9
        have hx9 : H9 p = some (.lst xs6) := s9.2 _ _ hx7 n1 n2 nTL
        have e9 := cf8.evo s9
        have fr9 : ∀ b o, H1 b = some o → b ≠ c.sd → b ≠ c.sg → nT o → H9 b = some o := fun b o e m1 m2 mt => s9.2 _ _ (s7.2 _ _ (fr6 b o e m1 m2 mt) m1 m2 mt) m1 m2 mt
        cases b with
        | true =>
          rw [if_pos rfl] at hb9 ⊢
          refine he B c0 _ ad H0 s8 H9 r8 _ _ cf9 (show trn c.sd H9 + me.n ≤ B by omega) hb9 fun z v H10 hz s10 a10 => ?_
          have s10l : trn c.sd H10 ≤ trn c.sd H9 + me.n := s10.3
          have e10 := cf9.evo s10
          have hx10 : H10 p = some (.lst xs6) := s10.2 _ _ hx9 n1 n2 nTL
          have cfo10 := ((cfo6.step s7).step s9).step s10
          have cfi10 := (cf7.step s9).step s10
          obtain ⟨cfo11, e11⟩ := cfo10.grow (o' := .lst (xs6 ++ [v])) hx10 nTL (tabs_upd cfo10.inv.tabs hx10 nTL nCL) h0p n1 n2 n3 how2
          obtain ⟨cfi11, _⟩ := cfi10.grow (o' := .lst (xs6 ++ [v])) hx10 nTL (tabs_upd cfi10.inv.tabs hx10 nTL nCL) h0p n1 n2 n3 hor
          have hev := ((e7.trans e9).trans e10).trans e11
          have hb1 : i * 4096 + 4096 ≤ 4096 * 4096 := by omega
          refine ⟨xs6, hx10, by omega, xs6 ++ [v], out6 ++ [z], upd_same, by rw [List.length_append, List.length_singleton]; omega, ?_, cfo11, cfi11, I.evo _ _ _ _ hS6 hev, I1.evo _ _ _ _ hS16 hev, fun b o e m1 m2 mt => ?_, ?_, hz⟩
          · exact ((((hxa6.evo e7).evo e9).evo e10).append (.cons a10 .nil)).evo e11
          · rw [upd_ne (ne_of_none e hp)]
            exact s10.2 _ _ (fr9 b o e m1 m2 mt) m1 m2 mt
          · rw [trn_same (upd_ne (Ne.symm n1))]; omega
        | false =>
          rw [if_neg Bool.false_ne_true] at hb9 ⊢
          exact ⟨xs6, out6, hx9, by omega, (hxa6.evo e7).evo e9, (cfo6.step s7).step s9, cf7.step s9, I.evo _ _ _ _ hS6 (e7.trans e9), I1.evo _ _ _ _ hS16 (e7.trans e9), fr9, by omega, hb9⟩
      · have e : j = ds1.length := by omega
        subst e
        rw [List.drop_length] at hW6
        exact .inl ⟨I1.stops _ H6 hS16, xs6, out6, hx6, by omega, hxa6, cfo6, hS6, fr6, Nat.le_trans le6 (kk1 _ hle1), hW6⟩
    | false =>
      rw [if_neg Bool.false_ne_true] at hb ⊢
      exact ⟨xs, out, hx4, by omega, (hxa.evo e3).evo e4, cf3.step s4, I.evo _ _ _ _ hS2 (e3.trans e4), fr4, by omega, hb⟩
  · have e : i = ds.length := by omega
    subst e
    rw [List.drop_length] at hW
    exact .inl ⟨I.stops _ H2 hS2, k (.ol out) p H2 hW trivial (s1.free0 hp) ⟨cf2.inv, fun b o e m1 m2 mt => fr b o (s1.2 b o e m1 m2 mt) m1 m2 mt, Nat.le_trans le (kk _ hle)⟩ ⟨xs, hx, by have : ds.length * 4096 ≤ 4096 * 4096 := Nat.mul_le_mul_right _ hlen; omega, hxa⟩⟩
section
variable {g : G} {elt tg iter tg1 iter1 : Expr} {ifs ifs1 : List Expr} {scope : Scope} {pos : Pos} {mi mi1 : WI} {mg mg1 : WG} {mc mc1 : WT} {me : WE} {ws ws1 : List Nat}
theorem df_lc2 (own : List (Str × Nat)) (vs1 : List Nat) (hi : DI g tg iter mi) (hb : blkC g.N g.sc scope own = true) (hg : DG (g.blk scope) tg mg ws) (ht : DTs (g.blk scope) ifs mc) (hi1 : DI (g.blk scope) tg1 iter1 mi1) (hg1 : DG (g.blk scope) tg1 mg1 ws1) (ht1 : DTs (g.blk scope) ifs1 mc1)
    (he : DE (g.blk scope) elt me) (hv : ∀ i ∈ ws, i ∈ own.map (·.2) := by decide) (hv1 : ∀ i ∈ ws1, i ∈ vs1 := by decide) (hvv : ∀ i ∈ vs1, i ∈ own.map (·.2) := by decide) (hs : ∀ env x, foldedSetIterable iter env x = pure x := by intro _ _; rfl) (hs1 : ∀ env x, foldedSetIterable iter1 env x = pure x := by intro _ _; rfl) :
    DF g (.ListComp elt [⟨tg, iter, ifs, 0⟩, ⟨tg1, iter1, ifs1, 0⟩] scope pos) (fLc2 mi mg mc mi1 mg1 mc1 me (own.map (·.2)) vs1) := by
  obtain ⟨ti, pi⟩ := hi
  obtain ⟨tg', pg⟩ := hg
  obtain ⟨tt, pt⟩ := ht
  obtain ⟨ti1, pi1⟩ := hi1
  obtain ⟨tg1', pg1⟩ := hg1
  obtain ⟨tt1, pt1⟩ := ht1
  obtain ⟨te, pe⟩ := he
  refine ⟨fun E => tLc2 (ti E) (tg' E) (tt E) (ti1 E) (tg1' E) (tt1 E) (te E) (own.map (·.2)) vs1, fun y ok => ⟨?_, ?_⟩⟩
  · refine pe_lc2 (X := g.cx y) rfl ok.nd (pi y ok).1 (blkOk_by (by show blkC g.N y.env.scope scope own = true; rw [ok.sc]; exact hb)) hvv (fun s H C cl fp => (pg _ (blk_ok ok s H C cl fp)).1) (fun s H C cl fp => (pt _ (blk_ok ok s H C cl fp)).1)
      (fun s H C cl fp => (pi1 _ (blk_ok ok s H C cl fp)).1) (fun s H C cl fp => (pg1 _ (blk_ok ok s H C cl fp)).1) (fun s H C cl fp => (pt1 _ (blk_ok ok s H C cl fp)).1) (fun s H C cl fp => (pe _ (blk_ok ok s H C cl fp)).1) (hs _) hs1
  · have ok' := blk_ok (scope := scope) ok y.s0 y.H0 y.env.locals [] []
    exact sem_flc2 hv hv1 (pi y ok).2 (pg _ ok').2 (pt _ ok').2 (pi1 _ ok').2 (pg1 _ ok').2 (pt1 _ ok').2 (pe _ ok').2
theorem DF.e {e : Expr} {m : WF} (h : DF g e m) : DE g e m.e := let ⟨t, p⟩ := h; ⟨t, fun y ok => ⟨(p y ok).1, (p y ok).2.toE⟩⟩
theorem de_lc2 (own : List (Str × Nat)) (vs1 : List Nat) (hi : DI g tg iter mi) (hb : blkC g.N g.sc scope own = true) (hg : DG (g.blk scope) tg mg ws) (ht : DTs (g.blk scope) ifs mc) (hi1 : DI (g.blk scope) tg1 iter1 mi1) (hg1 : DG (g.blk scope) tg1 mg1 ws1) (ht1 : DTs (g.blk scope) ifs1 mc1)
    (he : DE (g.blk scope) elt me) (hv : ∀ i ∈ ws, i ∈ own.map (·.2) := by decide) (hv1 : ∀ i ∈ ws1, i ∈ vs1 := by decide) (hvv : ∀ i ∈ vs1, i ∈ own.map (·.2) := by decide) (hs : ∀ env x, foldedSetIterable iter env x = pure x := by intro _ _; rfl) (hs1 : ∀ env x, foldedSetIterable iter1 env x = pure x := by intro _ _; rfl) :
    DE g (.ListComp elt [⟨tg, iter, ifs, 0⟩, ⟨tg1, iter1, ifs1, 0⟩] scope pos) (fLc2 mi mg mc mi1 mg1 mc1 me (own.map (·.2)) vs1).e := (df_lc2 own vs1 hi hb hg ht hi1 hg1 ht1 he hv hv1 hvv hs hs1).e
end
end DS
/-! DS12: the source of draws: _law_begun, _law_blended, _law_draw. -/
namespace DS
open PySem PySem.Spec PyProof.Rows L2

/-! ### the dict of the source -/
abbrev drawD (c : Co) (left turn : Int) : List (Key × V) := [(kGreat, .ref c.sg), (kCells, .ref c.sl), (kLeft, .int left), (kTurn, .int turn)]
theorem key_ne : kGreat ≠ kCells ∧ kGreat ≠ kLeft ∧ kGreat ≠ kTurn ∧ kCells ≠ kLeft ∧ kCells ≠ kTurn ∧ kLeft ≠ kTurn := by decide +kernel
section
variable {a b d e v : V}
theorem val_great : valV [(kGreat, a), (kCells, b), (kLeft, d), (kTurn, e)] kGreat = some a := by
  unfold valV
  rw [List.find?_cons_of_pos (by simp)]; rfl
theorem val_cells : valV [(kGreat, a), (kCells, b), (kLeft, d), (kTurn, e)] kCells = some b := by
  obtain ⟨h1, h2, h3, h4, h5, h6⟩ := key_ne
  unfold valV
  rw [List.find?_cons_of_neg (by simpa using h1), List.find?_cons_of_pos (by simp)]; rfl
theorem val_left : valV [(kGreat, a), (kCells, b), (kLeft, d), (kTurn, e)] kLeft = some d := by
  obtain ⟨h1, h2, h3, h4, h5, h6⟩ := key_ne
  unfold valV
  rw [List.find?_cons_of_neg (by simpa using h2), List.find?_cons_of_neg (by simpa using h4), List.find?_cons_of_pos (by simp)]; rfl
theorem val_turn : valV [(kGreat, a), (kCells, b), (kLeft, d), (kTurn, e)] kTurn = some e := by
  obtain ⟨h1, h2, h3, h4, h5, h6⟩ := key_ne
  unfold valV
  rw [List.find?_cons_of_neg (by simpa using h3), List.find?_cons_of_neg (by simpa using h5), List.find?_cons_of_neg (by simpa using h6), List.find?_cons_of_pos (by simp)]; rfl
theorem put_left : putK [(kGreat, a), (kCells, b), (kLeft, d), (kTurn, e)] kLeft v = [(kGreat, a), (kCells, b), (kLeft, v), (kTurn, e)] := by
  obtain ⟨h1, h2, h3, h4, h5, h6⟩ := key_ne
  unfold putK
  rw [if_pos (by simp)]
  simp [h2, h4, Ne.symm h6]
theorem put_turn : putK [(kGreat, a), (kCells, b), (kLeft, d), (kTurn, e)] kTurn v = [(kGreat, a), (kCells, b), (kLeft, d), (kTurn, v)] := by
  obtain ⟨h1, h2, h3, h4, h5, h6⟩ := key_ne
  unfold putK
  rw [if_pos (by simp)]
  simp [h3, h5, h6]
theorem merge4 : mergeK [] [(kGreat, a), (kCells, b), (kLeft, d), (kTurn, e)] = [(kGreat, a), (kCells, b), (kLeft, d), (kTurn, e)] := by
  obtain ⟨h1, h2, h3, h4, h5, h6⟩ := key_ne
  unfold mergeK putK
  simp [h1, h2, h3, h4, h5, h6]
end
def StAt (c : Co) (H : Hp) (great cells : List Int) (left turn : Int) : Prop :=
  H c.sd = some (.dK (drawD c left turn)) ∧ H c.sg = some (.lst (great.map V.int)) ∧ H c.sl = some (.lst (cells.map V.int)) ∧ c.sl ≠ c.sg ∧ great.length ≤ 63 ∧ 0 ≤ left ∧ 0 ≤ turn ∧ (∀ g ∈ great, 0 ≤ g) ∧ LamX.Tabs c.T H
theorem StAt.more {c : Co} {H H' : Hp} {great cells : List Int} {left turn : Int} (h : StAt c H great cells left turn) (e : ∀ b o, H b = some o → H' b = some o) : StAt c H' great cells left turn := by
  obtain ⟨h1, h2, h3, r1, r2, r3, r4, r5, r6⟩ := h
  exact ⟨e _ _ h1, e _ _ h2, e _ _ h3, r1, r2, r3, r4, r5, r6.ext e⟩
theorem StInv.st {c : Co} {H : Hp} (h : StInv c H) : ∃ great cells left turn, StAt c H great cells left turn := let ⟨g, cl, l, t, r⟩ := h; ⟨g, cl, l, t, r⟩
theorem StAt.inv {c : Co} {H : Hp} {great cells : List Int} {left turn : Int} (h : StAt c H great cells left turn) : StInv c H := ⟨great, cells, left, turn, h⟩
theorem StAt.trn {c : Co} {H : Hp} {great cells : List Int} {left turn : Int} (h : StAt c H great cells left turn) : DS.trn c.sd H = turn.toNat := by unfold DS.trn; rw [h.1]
theorem StAt.ne {c : Co} {H : Hp} {great cells : List Int} {left turn : Int} (h : StAt c H great cells left turn) : c.sd ≠ c.sg ∧ c.sd ≠ c.sl := by
  constructor
  · intro z
    have h1 := h.1
    rw [z, h.2.1] at h1
    cases h1
  · intro z
    have h1 := h.1
    rw [z, h.2.2.1] at h1
    cases h1

/-! ### _law_blended -/
def spBl (K : PySem.W.Frag) : Sp := fun vs H Q _ => ∃ (c : Co) (great cells : List Int) (left turn : Int), vs = [.ref c.sd] ∧ StAt c H great cells left turn ∧ turn < most ∧
  ∀ (r : Int) H', 0 ≤ r → StAt c H' great cells left (turn + 1) → (∀ b o, H b = some o → b ≠ c.sd → H' b = some o) → Q (.int r) H'
abbrev rAddI : R2 := rI0 fun i j => .int (i + j)
abbrev rMulI : R2 := rI CMul fun i j => .int (i * j)
abbrev rFdI : R2 := rI CDiv fun i j => .int (i / j)
abbrev rModI : R2 := rI (fun _ j => 0 < j) fun i j => .int (i % j)
def huge : Nat := 2 ^ 200000
def rPow5 : R2 := rI (fun i j => j = 5 ∧ 0 ≤ i ∧ i < (huge : Int)) fun i j => .int (i ^ 5)
theorem op_pow5 {X : Cx} : OpR X (binaryOp .Pow) rPow5 := by
  refine opI fun i j _ _ _ _ _ hc q => ?_
  obtain ⟨rfl, h0, h1⟩ := hc
  refine pow_int (by decide) ?_ q
  have : Builtin.Int.intBits i ≤ 200000 := by
    unfold Builtin.Int.intBits
    split
    · omega
    · rename_i hz
      have h0' : 0 ≤ i := h0
      have h1' : i < (huge : Int) := h1
      have h2 : i.natAbs < huge := by omega
      have hz' : i.natAbs ≠ 0 := fun z => hz (by simpa using Int.natAbs_eq_zero.mp z)
      have h3 : Nat.log2 i.natAbs < 200000 := (Nat.log2_lt hz').mpr h2
      omega
  omega
abbrev rIntI : List V → Hp → VK → Prop := fun xs H Q => (∃ i, xs = [.int i] ∧ Q (.int i) H) ∨ ∃ k, xs = [.bl k] ∧ Q (.int (if k then 1 else 0)) H
def tBl (K : PySem.W.Frag) : TS :=
  tSeq (tPar 1 2 (tCons (tOp rAddI (tDGet (tVar 0) (tC (.str "turn"))) (tC (.int 1))) (tCons (tC (.int 0)) tNil)))
  (tSeq (sDPut (tVar 0) (tC (.str "turn")) (tVar 1))
  (tSeq (tFor (iList K (tLst (tCons (tC (.int 2147481811)) (tCons (tC (.int 2147481797)) (tCons (tC (.int 2147481793)) tNil))))) (gName 3)
    (tSeq (tAsg (tOp rAddI (tOp rMulI (tC (.int 44903)) (tVar 1)) (tOp rFdI (tVar 3) (tC (.int 79)))) (gName 4))
    (tSeq (tFor (iList K (tDGet (tVar 0) (tC (.str "cells")))) (gName 5) (tAsg (tOp rModI (tCB rIntI (tCons (tOp rAddI (tOp rAddI (tOp rMulI (tVar 4) (tC (.int 67891))) (tVar 5)) (tVar 1)) tNil)) (tVar 3)) (gName 4)))
          (tAsg (tOp rAddI (tOp rMulI (tVar 2) (tC (.int 2147483647))) (tOp rModI (tCB rIntI (tCons (tOp rPow5 (tVar 4) (tC (.int 5))) tNil)) (tVar 3))) (gName 2)))))
    (tRet (tVar 2))))
theorem mul_r {x y : Int} (h : 0 ≤ y ∧ y < 2 ^ 63) : CMul x y := .inr ⟨by omega, by omega⟩
theorem mul_l {x y : Int} (h : 0 ≤ x ∧ x < 2 ^ 63) : CMul x y := .inl ⟨by omega, by omega⟩
theorem most_big : 44903 * most + 44903 + 2147483647 < huge := by unfold most huge; decide +kernel
theorem huge_big : 2147483648 < huge := Nat.lt_of_le_of_lt (by omega) most_big
theorem bl_run {K : PySem.W.Frag} {D : Ends} {H : Hp} {vs : List V} {E : XK} (h : spBl K vs H D.rt E) : tBl K D (start ["state", "turn", "found", "prime", "blend", "cell"] vs) H := by
  obtain ⟨c, great, cells, left, turn, rfl, hs, ht, q⟩ := h
  obtain ⟨n1, n2⟩ := hs.ne
  obtain ⟨e1, e2, e3, e4, e5, e6, e7, e8⟩ := hs
  refine ⟨.ref c.sd, rfl, c.sd, .int turn, rfl, by rw [← val_turn (a := .ref c.sg) (b := .ref c.sl) (d := .int left) (e := .int turn)]; exact DGet.k (k := kTurn) e1, turn, 1, rfl, rfl, _, _, rfl, ?_⟩
  refine ⟨.int (turn + 1), rfl, .ref c.sd, rfl, c.sd, upd H c.sd (.dK (drawD c left (turn + 1))), rfl, ?_, ?_⟩
  · have := DPut.k (k := kTurn) (v := .int (turn + 1)) e1 (by rw [sizeLine_eq]; show 4 < 16777216; decide)
    rw [put_turn] at this
    exact this
  -- the three primes
  have hs2 : StAt c (upd H c.sd (.dK (drawD c left (turn + 1)))) great cells left (turn + 1) := ⟨upd_same, by rw [upd_ne (Ne.symm n1)]; exact e2, by rw [upd_ne (Ne.symm n2)]; exact e3, e4, e5, e6, by omega, e8.1, tabs_upd e8.2 e1 nTK nCK⟩
  have hH : ∀ b o, H b = some o → b ≠ c.sd → upd H c.sd (.dK (drawD c left (turn + 1))) b = some o := fun b o e n => by rw [upd_ne n]; exact e
  generalize upd H c.sd (.dK (drawD c left (turn + 1))) = H1 at hs2 hH ⊢
  refine ⟨by show 3 ≤ sizeLine; decide, fun p hp => ⟨p, rfl, ⟨_, SqL.of upd_same⟩, ?_⟩⟩
  have hs3 : StAt c (upd H1 p (.lst [.int 2147481811, .int 2147481797, .int 2147481793])) great cells left (turn + 1) := by
    exact hs2.more (fun b u e => by rw [upd_ne (ne_of_none e hp)]; exact e)
  have hH3 : ∀ b o, H b = some o → b ≠ c.sd → upd H1 p (.lst [.int 2147481811, .int 2147481797, .int 2147481793]) b = some o := fun b o e n => by
    have := hH b o e n
    rw [upd_ne (ne_of_none this hp)]; exact this
  have hL : SqL K (upd H1 p (.lst [.int 2147481811, .int 2147481797, .int 2147481793])) p [.int 2147481811, .int 2147481797, .int 2147481793] := SqL.of upd_same
  generalize upd H1 p (.lst [.int 2147481811, .int 2147481797, .int 2147481793]) = H2 at hs3 hH3 hL ⊢
  refine ⟨fun i m σ H' => m + i = 3 ∧ H' = H2 ∧ ∃ (f : Int) (y3 y4 y5 : Option V), 0 ≤ f ∧ σ = [some (.ref c.sd), some (.int (turn + 1)), some (.int f), y3, y4, y5], ⟨3, rfl, rfl, 0, none, none, none, Int.le_refl _, rfl⟩, ?_⟩
  rintro i m σ H' ⟨hm, rfl, f, y3, y4, y5, hf, rfl⟩
  by_cases hi : i < 3
  · have hx : ∃ pr : Int, ([V.int 2147481811, V.int 2147481797, V.int 2147481793] : List V)[i]? = some (.int pr) ∧ 0 < pr ∧ pr < 2147483648 := by
      match i, hi with
      | 0, _ => exact ⟨_, rfl, by decide, by decide⟩
      | 1, _ => exact ⟨_, rfl, by decide, by decide⟩
      | 2, _ => exact ⟨_, rfl, by decide, by decide⟩
    obtain ⟨pr, hx, p0, p1⟩ := hx
    refine .inr ⟨⟨_, _, hL, hx⟩, fun σ' H'' => H'' = H' ∧ ∃ (f : Int) (y3 y4 y5 : Option V), 0 ≤ f ∧ σ' = [some (.ref c.sd), some (.int (turn + 1)), some (.int f), y3, y4, y5], fun σ' H'' ⟨e, r⟩ => ⟨m - 1, by omega, by omega, e, r⟩, ?_⟩
    rintro x H'' ⟨rfl, hxx⟩
    have ex := hxx _ hL
    rw [hx] at ex
    cases ex
    -- blend = ..
    refine ⟨_, rfl, 44903, turn + 1, rfl, rfl, mul_l (by decide), _, rfl, pr, 79, rfl, rfl, ⟨by decide, by decide⟩, _, _, rfl, rfl, ?_⟩
    -- for cell in state['cells']
    obtain ⟨e1, e2, e3, e4, e5, e6, e7, e8⟩ := id hs3
    have hC : SqL K H'' c.sl (cells.map V.int) := SqL.of e3
    have b0 : 0 ≤ 44903 * (turn + 1) + pr / 79 := by omega
    have b1 : 44903 * (turn + 1) + pr / 79 < (huge : Int) := by
      have h1 := most_big
      have h2 : pr / 79 ≤ 2147483647 := by omega
      omega
    have b2 : ((2147483648 : Nat) : Int) < (huge : Int) := Int.ofNat_lt.mpr huge_big
    refine ⟨.ref c.sd, rfl, c.sd, .ref c.sl, rfl, by rw [← val_cells (a := .ref c.sg) (b := .ref c.sl) (d := .int left) (e := .int (turn + 1))]; exact DGet.k (k := kCells) e1, c.sl, rfl, ⟨_, hC⟩, ?_⟩
    refine ⟨fun j m σ H' => m + j = cells.length ∧ H' = H'' ∧ ∃ (bl : Int) (y5 : Option V), 0 ≤ bl ∧ bl < (huge : Int) ∧ σ = [some (.ref c.sd), some (.int (turn + 1)), some (.int f), some (.int pr), some (.int bl), y5], ⟨cells.length, rfl, rfl, 44903 * (turn + 1) + pr / 79, y5, b0, b1, rfl⟩, ?_⟩
    rintro j m2 σ H' ⟨hm2, rfl, bl, y5, b0, b1, rfl⟩
    by_cases hj : j < cells.length
    · have hx : (cells.map V.int)[j]? = some (.int cells[j]) := by rw [List.getElem?_map, List.getElem?_eq_getElem hj]; rfl
      refine .inr ⟨⟨_, _, hC, hx⟩, fun σ' H'' => H'' = H' ∧ ∃ (bl : Int) (y5 : Option V), 0 ≤ bl ∧ bl < (huge : Int) ∧ σ' = [some (.ref c.sd), some (.int (turn + 1)), some (.int f), some (.int pr), some (.int bl), y5], fun σ' H'' ⟨e, r⟩ => ⟨m2 - 1, by omega, by omega, e, r⟩, ?_⟩
      rintro x H'' ⟨rfl, hxx⟩
      have ex := hxx _ hC
      rw [hx] at ex
      cases ex
      refine ⟨_, rfl, _, _, rfl, rfl, mul_r (by decide), _, rfl, _, _, rfl, rfl, _, rfl, _, _, rfl, rfl, .inl ⟨_, rfl, _, rfl, _, _, rfl, rfl, p0, rfl, _, _, Int.emod_nonneg _ (by omega), ?_, rfl⟩⟩
      have := Int.emod_lt_of_pos (bl * 67891 + cells[j] + (turn + 1)) p0
      omega
    · have : j = cells.length := by omega
      subst this
      refine .inl ⟨⟨_, hC, by rw [List.length_map]; exact Nat.le_refl _⟩, ?_⟩
      -- found = ..
      refine ⟨_, rfl, _, _, rfl, rfl, mul_r (by decide), _, rfl, _, _, rfl, rfl, ⟨rfl, b0, b1⟩, .inl ⟨_, rfl, _, rfl, _, _, rfl, rfl, p0, _, _, rfl, rfl, rfl, _, _, _, _, ?_, rfl⟩⟩
      have h1 := Int.emod_nonneg (bl ^ 5) (show pr ≠ 0 by omega)
      omega
  · have : i = 3 := by omega
    subst this
    exact .inl ⟨⟨_, hL, by decide⟩, ⟨_, rfl, q f H' hf hs3 hH3⟩⟩
/-! ### _law_draw -/
def drawF : WFn := ⟨fun ds R => ∃ n : Int, ds = [.st, .int n] ∧ 0 < n ∧ n < 2 ^ 30 ∧ ∀ r : Int, 0 ≤ r → r < n → R (.int r), 1⟩
abbrev rEqI : R2 := rI0 fun i j => .bl (decide (i = j))
theorem op_eqI {X : Cx} : OpR X (compareOp .Eq) rEqI := opB0 fun _ _ _ _ _ _ _ q => eq_int q
abbrev tLeft : TE := tDGet (tVar 0) (tC (.str "left"))
def tDraw (K : PySem.W.Frag) : TS :=
  tSeq (tIfS (tTest (tOp rEqI tLeft (tC (.int 0))))
    (sDPut (tVar 0) (tC (.str "left")) (tIf (tTest (tOp (rEqA K fun b => !b) (tDGet (tVar 0) (tC (.str "great"))) (tLst tNil))) (tBM K "list" rPopAt (tDGet (tVar 0) (tC (.str "great"))) (tCons (tC (.int 0)) tNil)) (tCall (spBl K) [] L2.E0 (tCons (tVar 0) tNil))))
    tNext)
  (tSeq (tAsg (tOp rModI (tCB rIntI (tCons tLeft tNil)) (tVar 1)) (gName 2))
  (tSeq (sDPut (tVar 0) (tC (.str "left")) (tOp rFdI tLeft (tVar 1)))
    (tRet (tVar 2))))
theorem get_left {c : Co} {H : Hp} {left turn : Int} (e : H c.sd = some (.dK (drawD c left turn))) : DGet H c.sd (.str "left") (some (.int left)) := by
  rw [← val_left (a := .ref c.sg) (b := .ref c.sl) (d := .int left) (e := .int turn)]; exact DGet.k (k := kLeft) e
theorem get_great {c : Co} {H : Hp} {left turn : Int} (e : H c.sd = some (.dK (drawD c left turn))) : DGet H c.sd (.str "great") (some (.ref c.sg)) := by
  rw [← val_great (a := .ref c.sg) (b := .ref c.sl) (d := .int left) (e := .int turn)]; exact DGet.k (k := kGreat) e
theorem put_left' {c : Co} {H : Hp} {left turn l : Int} (e : H c.sd = some (.dK (drawD c left turn))) : DPut H c.sd (.str "left") (.int l) (upd H c.sd (.dK (drawD c l turn))) := by
  have := DPut.k (k := kLeft) (v := .int l) e (by rw [sizeLine_eq]; show 4 < 16777216; decide)
  rw [put_left] at this
  exact this
theorem StAt.left {c : Co} {H : Hp} {great cells : List Int} {left turn l : Int} (h : StAt c H great cells left turn) (hl : 0 ≤ l) : StAt c (upd H c.sd (.dK (drawD c l turn))) great cells l turn := by
  obtain ⟨n1, n2⟩ := h.ne
  obtain ⟨e1, e2, e3, e4, e5, e6, e7, e8⟩ := h
  exact ⟨upd_same, by rw [upd_ne (Ne.symm n1)]; exact e2, by rw [upd_ne (Ne.symm n2)]; exact e3, e4, e5, hl, e7, e8.1, tabs_upd e8.2 e1 nTK nCK⟩
theorem seq0 {n : Nat} (h : 0 < n) : seqIndex? 0 n = some 0 := by unfold seqIndex?; simp; omega
theorem draw_run {K : PySem.W.Frag} {D : Ends} {H : Hp} {vs : List V} {E : XK} {TB : List (Addr × Str)} (h : spW K 2 drawF TB vs H D.rt E) : tDraw K D (start ["state", "size_here", "found"] vs) H := by
  obtain ⟨c, ds, R, ho, a, _, bd, ⟨n, rfl, n0, n1, hF⟩, k⟩ := h
  cases a with
  | cons a1 a2 => cases a2 with
    | cons a2 a3 =>
      cases a3
      cases a1
      cases a2
      obtain ⟨great, cells, left, turn, hs⟩ := ho.inv.st
      have ht := hs.trn
      have ht0 : 0 ≤ turn := hs.2.2.2.2.2.2.1
      have bd' : turn.toNat + 1 ≤ most := by
        have : trn c.sd H + 1 ≤ most := bd.1
        rw [ht] at this; exact this
      have rest : ∀ H' great' left' turn', StAt c H' great' cells left' turn' → turn' ≤ turn + 1 → (∀ b o, H b = some o → b ≠ c.sd → b ≠ c.sg → H' b = some o) →
          (tSeq (tAsg (tOp rModI (tCB rIntI (tCons tLeft tNil)) (tVar 1)) (gName 2)) (tSeq (sDPut (tVar 0) (tC (.str "left")) (tOp rFdI tLeft (tVar 1))) (tRet (tVar 2)))) D [some (.ref c.sd), some (.int n), none] H' := by
        intro H' great' left' turn' hs' htt fr
        obtain ⟨q1, q2⟩ := hs'.ne
        have l0 : 0 ≤ left' := hs'.2.2.2.2.2.1
        refine ⟨.ref c.sd, rfl, c.sd, _, rfl, get_left hs'.1, .inl ⟨_, rfl, _, rfl, _, _, rfl, rfl, n0, ?_⟩⟩
        refine ⟨.ref c.sd, rfl, c.sd, _, rfl, get_left hs'.1, _, rfl, _, _, rfl, rfl, ⟨n0, by omega⟩, .ref c.sd, rfl, c.sd, _, rfl, put_left' hs'.1, _, rfl, ?_⟩
        have hs2 := hs'.left (Int.ediv_nonneg l0 (Int.le_of_lt n0))
        refine k (.int (left' % n)) _ _ (hF _ (Int.emod_nonneg _ (by omega)) (Int.emod_lt_of_pos _ n0)) ⟨hs2.inv, fun b o e m1 m2 _ => by rw [upd_ne m1]; exact fr b o e m1 m2, ?_⟩ (.int _)
        rw [hs2.trn, ht]
        show turn'.toNat ≤ turn.toNat + 1
        omega
      refine ⟨.ref c.sd, rfl, c.sd, _, rfl, get_left hs.1, left, 0, rfl, rfl, _, rfl, ?_⟩
      refine ite2 (fun hz => ?_) (fun hz => ?_)
      · obtain ⟨q1, q2⟩ := hs.ne
        refine ⟨.ref c.sd, rfl, c.sd, _, rfl, get_great hs.1, Nat.zero_le _, fun p hp => .inr (.inr ⟨c.sg, p, great.map V.int, rfl, rfl, ?_, SqL.of upd_same, _, rfl, ?_⟩)⟩
        · refine SqL.of ?_
          rw [upd_ne (ne_of_none hs.2.1 hp)]; exact hs.2.1
        have hs1 : StAt c (upd H p (.lst [])) great cells left turn := by
          exact hs.more (fun b u e => by rw [upd_ne (ne_of_none e hp)]; exact e)
        have fr1 : ∀ b o, H b = some o → upd H p (.lst []) b = some o := fun b o e => by rw [upd_ne (ne_of_none e hp)]; exact e
        generalize upd H p (.lst []) = H1 at hs1 fr1 ⊢
        cases great with
        | nil =>
          refine ite2 (fun hz => by cases hz) (fun hz => ?_)
          refine ⟨.ref c.sd, rfl, c, [], cells, left, turn, rfl, hs1, by omega, fun r H2 r0 hs2 fr2 => ?_⟩
          refine ⟨.ref c.sd, rfl, c.sd, _, rfl, put_left' hs2.1, ?_⟩
          exact rest _ _ _ _ (hs2.left r0) (Int.le_refl _) fun b o e m1 m2 => by rw [upd_ne m1]; exact fr2 b o (fr1 b o e) m1
        | cons g gs =>
          refine ite2 (fun hz => ?_) (fun hz => absurd rfl hz)
          obtain ⟨e1, e2, e3, e4, e5, e6, e7, e8⟩ := id hs1
          refine ⟨.ref c.sd, rfl, c.sd, _, rfl, get_great e1, .inl ⟨rfl, _, SqL.of e2⟩, c.sg, _, 0, 0, .int g, rfl, rfl, e2, by decide, by decide, ?_, rfl, ?_⟩
          · exact seq0 (by rw [List.length_map, List.length_cons]; omega)
          · have hs2 : StAt c (upd H1 c.sg (.lst (((g :: gs).map V.int).eraseIdx 0))) gs cells left turn := by
              refine ⟨by rw [upd_ne q1]; exact e1, upd_same, by rw [upd_ne e4]; exact e3, e4, ?_, e6, e7, fun x hx => e8.1 x (List.mem_cons_of_mem _ hx), tabs_upd e8.2 e2 nTL nCL⟩
              rw [List.length_cons] at e5
              omega
            refine ⟨.ref c.sd, rfl, c.sd, _, rfl, put_left' hs2.1, ?_⟩
            exact rest _ _ _ _ (hs2.left (e8.1 g List.mem_cons_self)) (by omega) fun b o e m1 m2 => by rw [upd_ne m1, upd_ne m2]; exact fr1 b o e
      · exact rest H great left turn hs (by omega) fun b o e _ _ => e
end DS
/-! DS13: _law_begun; the defs of the source, from the law's text. -/
namespace DS
open PySem PySem.Spec PyProof.Rows L2

def same_new {H : Hp} {p : Addr} {o : HO} (h : H p = none) : ∀ b x, H b = some x → upd H p o b = some x := fun b x e => by
  rw [upd_ne (ne_of_none e h)]
  exact e
def spBegun (K : PySem.W.Frag) : Sp := fun vs H Q _ => ∃ (a : Addr) (ns : List Int) (T : List (Addr × Str)), vs = [.ref a] ∧ SqL K H a (ns.map V.int) ∧ ns.length ≤ 63 ∧ LamX.Tabs T H ∧
  ∀ (c : Co) (great cells : List Int) H', c.T = T → StAt c H' great cells 0 0 → H c.sd = none → H c.sg = none → (∀ b o, H b = some o → H' b = some o) → Q (.ref c.sd) H'
abbrev rAbsI : List V → Hp → VK → Prop := fun xs H Q => ∃ i, xs = [.int i] ∧ Q (.int (if i < 0 then -i else i)) H
abbrev rGeI : R2 := rI0 fun i j => .bl (decide (j ≤ i))
abbrev rPowI : R2 := rI CPow fun i j => .int (i ^ j.toNat)
abbrev rSubI : R2 := rI0 fun i j => .int (i - j)
abbrev tAbs : TE := tCB rAbsI (tCons (tVar 2) tNil)
abbrev tE18 : TE := tOp rPowI (tC (.int 10)) (tC (.int 18))
def tBegun (K : PySem.W.Frag) : TS :=
  tSeq (tAsg (tLc (iList K (tVar 0)) (gName 2) (tTest (tOp rGeI tAbs tE18)) (tOp rSubI tAbs tE18) [2]) (gName 1))
    (tRet (tDisp [(tC (.str "great"), tVar 1), (tC (.str "cells"), tLc (iList K (tVar 0)) (gName 2) tYes tAbs [2]), (tC (.str "left"), tC (.int 0)), (tC (.str "turn"), tC (.int 0))]))
theorem pow18 : CPow 10 18 := ⟨by decide, by decide, by decide⟩
theorem begun_run {K : PySem.W.Frag} {D : Ends} {H : Hp} {vs : List V} {E : XK} (h : spBegun K vs H D.rt E) : tBegun K D (start ["script", "great", "cell"] vs) H := by
  obtain ⟨a, ns, T, rfl, hS, hl, hT, q⟩ := h
  have hsz : 63 < sizeLine := by rw [sizeLine_eq]; decide
  refine ⟨.ref a, rfl, a, rfl, ⟨_, hS⟩, fun p hp => ?_⟩
  have hp0 := hp
  refine ⟨fun i m H' => m + i = ns.length ∧ ∃ out : List Int, H' p = some (.lst (out.map V.int)) ∧ out.length ≤ i ∧ (∀ g ∈ out, 0 ≤ g) ∧ ∀ b o, H b = some o → H' b = some o, ⟨ns.length, rfl, [], upd_same, Nat.le_refl _, (fun g hg => by cases hg), same_new hp⟩, ?_⟩
  rintro i m H1 ⟨hm, out, ho, hol, hpos, fr⟩
  have hS1 : SqL K H1 a (ns.map V.int) := Same.seq fr hS
  by_cases hi : i < ns.length
  · have hx : (ns.map V.int)[i]? = some (.int ns[i]) := by rw [List.getElem?_map, List.getElem?_eq_getElem hi]; rfl
    refine .inr ⟨⟨_, _, hS1, hx⟩, fun H' => ∃ out : List Int, H' p = some (.lst (out.map V.int)) ∧ out.length ≤ i + 1 ∧ (∀ g ∈ out, 0 ≤ g) ∧ ∀ b o, H b = some o → H' b = some o, fun H' h => ⟨m - 1, by omega, by omega, h⟩, ?_⟩
    rintro x H2 ⟨rfl, hxx⟩
    have ex := hxx _ hS1
    rw [hx] at ex
    cases ex
    refine ⟨rfl, ?_⟩
    refine ⟨_, rfl, _, rfl, 10, 18, rfl, rfl, pow18, _, _, rfl, rfl, _, rfl, ?_⟩
    refine ite2 (fun hge => ?_) (fun _ => ⟨out, ho, by omega, hpos, fr⟩)
    have hge := of_decide_eq_true hge
    refine ⟨_, rfl, _, rfl, 10, 18, rfl, rfl, pow18, _, _, rfl, rfl, _, ho, by rw [List.length_map]; omega, ?_⟩
    refine ⟨out ++ [(if ns[i] < 0 then -ns[i] else ns[i]) - 10 ^ (18 : Int).toNat], ?_, ?_, ?_, fun b o e => ?_⟩
    · rw [upd_same, List.map_append]; rfl
    · rw [List.length_append, List.length_singleton]; omega
    · intro g hg
      rcases List.mem_append.mp hg with z | z
      · exact hpos g z
      · rw [List.mem_singleton] at z
        subst z
        omega
    · rw [upd_ne (ne_of_none e hp)]; exact fr b o e
  · have : i = ns.length := by omega
    subst this
    refine .inl ⟨⟨_, hS1, by rw [List.length_map]; exact Nat.le_refl _⟩, ?_⟩
    -- the dict
    intro d hd
    have fr1 : ∀ b o, H b = some o → upd H1 d (.dK []) b = some o := fun b o e => same_new hd _ _ (fr b o e)
    have hp1 : upd H1 d (.dK []) p = some (.lst (out.map V.int)) := same_new hd _ _ ho
    have hd1 : upd H1 d (.dK []) d = some (.dK []) := upd_same
    have hd0 : H d = none := by
      cases e : H d with
      | none => rfl
      | some o => rw [fr d o e] at hd; cases hd
    generalize upd H1 d (.dK []) = H2 at fr1 hp1 hd1 ⊢
    refine ⟨.ref p, rfl, .ref a, rfl, a, rfl, ⟨_, Same.seq fr1 hS⟩, fun l hl2 => ?_⟩
    have hl0 : H l = none := by
      cases e : H l with
      | none => rfl
      | some o => rw [fr1 l o e] at hl2; cases hl2
    have npl : p ≠ l := ne_of_none hp1 hl2
    have ndl : d ≠ l := ne_of_none hd1 hl2
    have ndp : d ≠ p := fun z => by rw [z, hp1] at hd1; cases hd1
    refine ⟨fun i m H' => m + i = ns.length ∧ ∃ cells : List Int, H' l = some (.lst (cells.map V.int)) ∧ cells.length ≤ i ∧ ∀ b o, H2 b = some o → H' b = some o, ⟨ns.length, rfl, [], upd_same, Nat.le_refl _, same_new hl2⟩, ?_⟩
    rintro i m H3 ⟨hm, cells, hc, hcl, fr3⟩
    have hS3 : SqL K H3 a (ns.map V.int) := Same.seq (fun b o e => fr3 b o (fr1 b o e)) hS
    by_cases hi : i < ns.length
    · have hx : (ns.map V.int)[i]? = some (.int ns[i]) := by rw [List.getElem?_map, List.getElem?_eq_getElem hi]; rfl
      refine .inr ⟨⟨_, _, hS3, hx⟩, fun H' => ∃ cells : List Int, H' l = some (.lst (cells.map V.int)) ∧ cells.length ≤ i + 1 ∧ ∀ b o, H2 b = some o → H' b = some o, fun H' h => ⟨m - 1, by omega, by omega, h⟩, ?_⟩
      rintro x H4 ⟨rfl, hxx⟩
      have ex := hxx _ hS3
      rw [hx] at ex
      cases ex
      refine ⟨rfl, ?_⟩
      refine ⟨_, rfl, _, rfl, _, hc, by rw [List.length_map]; omega, cells ++ [if ns[i] < 0 then -ns[i] else ns[i]], ?_, ?_, fun b o e => ?_⟩
      · rw [upd_same, List.map_append]; rfl
      · rw [List.length_append, List.length_singleton]; omega
      · rw [upd_ne (ne_of_none e hl2)]; exact fr3 b o e
    · have : i = ns.length := by omega
      subst this
      refine .inl ⟨⟨_, hS3, by rw [List.length_map]; exact Nat.le_refl _⟩, ?_⟩
      refine ⟨fr3 _ _ hd1, [(kGreat, .ref p), (kCells, .ref l), (kLeft, .int 0), (kTurn, .int 0)], rfl, by show 4 ≤ 15; decide, ?_⟩
      rw [merge4]
      have frA : ∀ b o, H b = some o → (upd H3 d (.dK [(kGreat, .ref p), (kCells, .ref l), (kLeft, .int 0), (kTurn, .int 0)])) b = some o := fun b o e => by rw [upd_ne (ne_of_none e hd0)]; exact fr3 _ _ (fr1 _ _ e)
      refine q ⟨fun b => b = d ∨ b = p, d, p, l, T⟩ out cells _ rfl ⟨upd_same, ?_, ?_, Ne.symm npl, by omega, Int.le_refl _, Int.le_refl _, hpos, hT.ext frA⟩ hd0 hp0 fun b o e => ?_
      · rw [upd_ne (Ne.symm ndp)]; exact fr3 _ _ hp1
      · rw [upd_ne (Ne.symm ndl)]; exact hc
      · rw [upd_ne (ne_of_none e hd0)]; exact fr3 _ _ (fr1 _ _ e)
end DS
/-! DS14: a law's own def; what is known of a law's text. -/
namespace DS
open PySem PySem.Spec PyProof.Rows L2

/-! ### abs, int -/
def absD : List D → Option D
  | [.int i] => some (.int (if i < 0 then -i else i))
  | _ => none
theorem s_abs {K : PySem.W.Frag} : SemC K absD rAbsI := by
  intro c H vs ds z Q ho a e k
  match ds, a, e with
  | [.int i], .cons (.int _) .nil, e => cases e; exact ⟨i, rfl, k _ H (Step.refl ho.inv) (.int _)⟩
def intD : List D → Option D
  | [.int i] => some (.int i)
  | [.bl b] => some (.int (if b then 1 else 0))
  | _ => none
theorem s_int {K : PySem.W.Frag} : SemC K intD rIntI := by
  intro c H vs ds z Q ho a e k
  match ds, a, e with
  | [.int i], .cons (.int _) .nil, e => cases e; exact .inl ⟨i, rfl, k _ H (Step.refl ho.inv) (.int _)⟩
  | [.bl i], .cons (.bl _) .nil, e => cases e; exact .inr ⟨i, rfl, k _ H (Step.refl ho.inv) (.int _)⟩

/-! ### a def of the text, under its name -/
structure Have (K : PySem.W.Frag) (mg : Str → Option Value) (x : Str) (st : Stmt) : Prop where
  ex : ∃ f fd, mg x = some (.ref f) ∧ L2.Fun K x x st f fd
theorem Have.mk' {K : PySem.W.Frag} {h : Heap} {mg : Str → Option Value} {x : Str} {st : Stmt} {f : Addr} {oc : Value} {od an : Option Addr} {osl : Array (Option Value)} {kV doc pm cdv ct : Value} (X : K.In h) (G : h.Ns mainGlobals mg) (a : PySem.W.nsIn K mainGlobals x = some (some (.ref f)))
    (l : K.lookup f = some ⟨oc, od, .func (PySem.W.fnOf x x (defArgs st) (defBody st) (defScope st) .none kV doc pm an cdv ct), osl⟩) (c : PySem.W.codeIn K cdv x = true) (k : PySem.W.keepIn K (.ref f) = true) : Have K mg x st :=
  ⟨⟨f, _, PySem.W.mg_of X G a, fun_mk l c k⟩⟩
theorem Glob.int {K : PySem.W.Frag} {h : Heap} {mg : Str → Option Value} {x : Str} {i : Int} {t : Tok} (X : K.In h) (G : h.Ns mainGlobals mg) (a : PySem.W.nsIn K mainGlobals x = some (some (.int i t))) : Glob K mg x (.int i) :=
  ⟨⟨_, .int i, PySem.W.mg_of X G a, ⟨t, rfl⟩, fun _ _ => .int i⟩⟩
theorem Glob.str {K : PySem.W.Frag} {h : Heap} {mg : Str → Option Value} {x : Str} {i : Str} {t : Tok} (X : K.In h) (G : h.Ns mainGlobals mg) (a : PySem.W.nsIn K mainGlobals x = some (some (.str i t))) (hs : sokB i = true := by decide +kernel) : Glob K mg x (.str i) :=
  ⟨⟨_, .str i, PySem.W.mg_of X G a, ⟨t, rfl⟩, fun _ _ => .str i (sok_of hs)⟩⟩
section
variable {P : Program} {w : World} {K : PySem.W.Frag} {mg : Str → Option Value} {base : Heap}
/-- how many values bind to the names ps -/
def BindsN (st : Stmt) (x : Str) (ps : List Str) : Prop := ∀ (kV doc pm : Value) (an : Option Addr) (cdv ct : Value) (us : List Value), us.length = ps.length → bindArgs (PySem.W.fnOf x x (defArgs st) (defBody st) (defScope st) .none kV doc pm an cdv ct) ⟨us, []⟩ = pure (ps.zip us)
def BindsKW (st : Stmt) (x : Str) (ps ks : List Str) (pm : List Nat) : Prop := ∀ (kV doc pmv : Value) (an : Option Addr) (cdv ct : Value) (ws : List Value), ws.length = ks.length → bindArgs (PySem.W.fnOf x x (defArgs st) (defBody st) (defScope st) .none kV doc pmv an cdv ct) ⟨[], ks.zip ws⟩ = pure (ps.zip (picks pm ws))
theorem fnW_of {x : Str} {st : Stmt} {N ps : List Str} {m : WS} {k : Nat} {TB : List (Addr × Str)} (F : Have K mg x st) (S : FnScope N ps (defScope st)) (hp : ps.length ≤ N.length) (hbd : BindsN st x ps) (hb : DSs (gOf P w K mg base k N st false TB) (defBody st) m) : FnW P w K mg base (k + 1) x ps.length (fnF N m) TB := by
  obtain ⟨f, fd, hm, F⟩ := F.ex
  exact fnW_mk F S hp hm (F.binds hbd) hb
theorem fnKW_of {x : Str} {st : Stmt} {N ps ks : List Str} {pm : List Nat} {m : WS} {k : Nat} {TB : List (Addr × Str)} (F : Have K mg x st) (S : FnScope N ps (defScope st)) (hp : ps.length ≤ N.length) (hbd : BindsKW st x ps ks pm) (hb : DSs (gOf P w K mg base k N st false TB) (defBody st) m) : FnKW P w K mg base (k + 1) x ks pm ps.length (fnF N m) TB := by
  obtain ⟨f, fd, hm, F⟩ := F.ex
  refine ⟨⟨f, fd, ps, rfl, fn_ok F S hp hb, hm, F.kp, fun s ws _ hw _ => ?_⟩⟩
  obtain ⟨oc, od, kV, doc, pmv, an, cdv, ct, osl, rfl, lk, hcd⟩ := F.ex
  exact .of_eq (hbd kV doc pmv an cdv ct ws hw)
/-- a def that is walked by hand -/
theorem fnW_hand {x : Str} {st : Stmt} {N ps : List Str} {k n : Nat} {F : WFn} {t : PySem.W.Frag → TS} {TB : List (Addr × Str)} (Fh : Have K mg x st) (S : FnScope N ps (defScope st)) (hbd : BindsN st x ps) (hn : ps.length = n)
    (hb : ∀ y, (gOf P w K mg base k N st false TB).Ok y → PSs ((gOf P w K mg base k N st false TB).cx y) (defBody st) (t K))
    (hr : ∀ {D : Ends} {H : Hp} {vs : List V} {E : XK}, spW K n F TB vs H D.rt E → t K D (start N vs) H) : FnW P w K mg base (k + 1) x n F TB := by
  obtain ⟨f, fd, hm, Fh⟩ := Fh.ex
  subst hn
  refine ⟨⟨f, fd, ps, rfl, Fh.ok S (fun vs H Q E ⟨c, ds, R, _, a, l, _⟩ => a.length.trans l) (fun cdv A outer s H vs Q E hrm h => ?_), hm, Fh.kp, Fh.binds hbd⟩⟩
  have ok : (gOf P w K mg base k N st false TB).Ok { A := A.deeper (envOfC x (defScope st) s.heap.objs.size f cdv), s0 := s, H0 := H, env := envOfC x (defScope st) s.heap.objs.size f cdv, outer := outer, stack := envOfC x (defScope st) s.heap.objs.size f cdv :: outer, ex := [], pn := [], xe := fun _ _ => False, E := ⟨fun _ _ _ => True, TB⟩ } :=
    ⟨rfl, hrm, S.nd, PassesOwn.never, fun z => Bool.noConfusion z, rfl, fun _ h => (by cases h), fun z => Bool.noConfusion z⟩
  exact ⟨t K, hb _ ok, hr (D := { nx := fun _ H' => Q .non H', rt := Q }) h⟩
/-- .. whose promise is told of the heap -/
structure FnH (P : Program) (w : World) (K : PySem.W.Frag) (mg : Str → Option Value) (base : Heap) (k : Nat) (x : Str) (sp : Sp) : Prop where
  ex : ∃ f fd ps, FnOk P w K mg base L2.CX0 k f fd ps sp ∧ mg x = some (.ref f) ∧ PySem.W.keepIn K (.ref f) = true ∧ Binds K fd ps []
theorem fnH_hand {x : Str} {st : Stmt} {N ps : List Str} {k n : Nat} {sp : Sp} {t : PySem.W.Frag → TS} (Fh : Have K mg x st) (S : FnScope N ps (defScope st)) (hbd : BindsN st x ps) (hl : ∀ vs H Q E, sp vs H Q E → vs.length = ps.length)
    (hb : ∀ y, (gOf P w K mg base k N st false).Ok y → PSs ((gOf P w K mg base k N st false).cx y) (defBody st) (t K))
    (hr : ∀ {D : Ends} {H : Hp} {vs : List V} {E : XK}, sp vs H D.rt E → t K D (start N vs) H) : FnH P w K mg base (k + 1) x sp := by
  obtain ⟨f, fd, hm, Fh⟩ := Fh.ex
  refine ⟨⟨f, fd, ps, Fh.ok S hl (fun cdv A outer s H vs Q E hrm h => ?_), hm, Fh.kp, Fh.binds hbd⟩⟩
  have ok : (gOf P w K mg base k N st false).Ok { A := A.deeper (envOfC x (defScope st) s.heap.objs.size f cdv), s0 := s, H0 := H, env := envOfC x (defScope st) s.heap.objs.size f cdv, outer := outer, stack := envOfC x (defScope st) s.heap.objs.size f cdv :: outer, ex := [], pn := [], xe := fun _ _ => False, E := ⟨fun _ _ _ => True, []⟩ } :=
    ⟨rfl, hrm, S.nd, PassesOwn.never, fun z => Bool.noConfusion z, rfl, fun _ h => (by cases h), fun z => Bool.noConfusion z⟩
  exact ⟨t K, hb _ ok, hr (D := { nx := fun _ H' => Q .non H', rt := Q }) h⟩

/-! ### the law -/
def spLaw (T : List (Addr × Str)) (K : PySem.W.Frag) : Sp := fun vs H Q _ => ∃ (a : Addr) (ns : List Int), vs = [.ref a] ∧ SqL K H a (ns.map V.int) ∧ ns.length ≤ 63 ∧ LamX.Tabs T H ∧ ∀ H', Q (.bl true) H'
/-- the law answers True from here on, whatever is drawn -/
def lawE (N : List Str) : Env := ⟨.un :: .sh .st :: List.replicate (N.length - 2) .un, fun _ => False⟩
def LawTrue (N : List Str) (m : WS) : Prop := m.n ≤ most ∧ m { nx := fun _ => False, rt := fun d => d = .bl true } (lawE N)
theorem law_cf {K : PySem.W.Frag} {c : Co} {H : Hp} {great cells : List Int} {left turn : Int} {N : List Str} {a : Addr} {T : List (Addr × Str)} (h : StAt c H great cells left turn) (hcT : c.T = T) (hN : 2 ≤ N.length) {B : Nat} (hB : B ≤ most) : Cf K B { c with O := fun b => b = c.sd ∨ b = c.sg } { c with O := fun b => b = c.sd ∨ b = c.sg } (fun _ => 0) H ⟨fun _ _ _ => True, T⟩ ((start N [V.ref a]).set 1 (some (.ref c.sd))) H (lawE N) where
  sd := rfl
  sg := rfl
  scl := rfl
  sT := rfl
  tT := hcT
  le := fun _ h => h
  st := Run.refl h.inv
  dom := fun b hb => hb.elim (fun z => by rw [z]; exact ⟨_, h.1, nTK⟩) fun z => by rw [z]; exact ⟨_, h.2.1, nTL⟩
  dom0 := fun b hb => hb.elim (fun z => by rw [z]; exact ⟨_, h.1, nTK⟩) fun z => by rw [z]; exact ⟨_, h.2.1, nTL⟩
  osd := .inl rfl
  osg := .inr rfl
  own := fun i x e o => by
    exfalso
    have hm := List.mem_of_getElem? e
    rcases List.mem_cons.mp hm with z | hm
    · subst z; exact o.elim
    rcases List.mem_cons.mp hm with z | hm
    · subst z; exact o.elim
    rw [List.mem_replicate] at hm
    obtain ⟨_, rfl⟩ := hm
    exact o.elim
  inj := fun i j x z e _ o => by
    exfalso
    have hm := List.mem_of_getElem? e
    rcases List.mem_cons.mp hm with z | hm
    · subst z; exact o.elim
    rcases List.mem_cons.mp hm with z | hm
    · subst z; exact o.elim
    rw [List.mem_replicate] at hm
    obtain ⟨_, rfl⟩ := hm
    exact o.elim
  sl := fun i x e => by
    match i, e with
    | 0, e => cases e; exact .un
    | 1, e =>
      cases e
      have : ((start N [V.ref a]).set 1 (some (.ref c.sd)))[1]? = some (some (.ref c.sd)) := by
        rw [List.getElem?_set, if_pos rfl, if_pos]
        show 1 < (List.map some [V.ref a] ++ List.replicate (N.length - 1) none).length
        rw [List.length_append, List.length_replicate]
        show 1 < 1 + (N.length - 1)
        omega
      rw [this]
      exact .sh .st
    | i + 2, e =>
      have hm := List.mem_of_getElem? (show (List.replicate (N.length - 2) Sl.un)[i]? = some x from e)
      rw [List.mem_replicate] at hm
      rw [hm.2]
      exact .un
  len := by
    show ((List.map some [V.ref a] ++ List.replicate (N.length - 1) none).set 1 (some (V.ref c.sd))).length = (Sl.un :: Sl.sh .st :: List.replicate (N.length - 2) Sl.un).length
    rw [List.length_set, List.length_append, List.length_replicate, List.length_cons, List.length_cons, List.length_replicate]
    show 1 + (N.length - 1) = N.length - 2 + 1 + 1
    omega
  ex := fun x z => z.elim
  top := hB
theorem law_ok {st : Stmt} {N : List Str} {m : WS} {k : Nat} {f : Addr} {fd : FuncData} {rest : List Stmt} {T : List (Addr × Str)} {p1 p2 p3 p4 p5 : Pos} (F : L2.Fun K "law" "law" st f fd) (S : FnScope N ["script"] (defScope st)) (B : FnH P w K mg base 1 "_law_begun" (spBegun K)) (hk : 1 ≤ k)
    (hst : defBody st = .Assign [.Name "state" p1] (.Call (.Name "_law_begun" p2) [.Name "script" p3] [] p4) p5 :: rest) (hb : DSs (gOf P w K mg base k N st false T) rest m) (hN2 : 2 ≤ N.length)
    (h0 : N[0]? = some ("script" : Str)) (h1 : N[1]? = some ("state" : Str)) (hg : (defScope st).names.lookup ("_law_begun" : Str) = some .globalImplicit) (hs : (defScope st).names.lookup ("state" : Str) = some .local ∨ (defScope st).names.lookup ("state" : Str) = some .cell)
    (ht : LawTrue N m) : FnOk P w K mg base L2.CX0 (k + 1) f fd ["script"] (spLaw T K) := by
  obtain ⟨t, p⟩ := hb
  obtain ⟨fB, fdB, psB, FB, hmB, hkB, hbB⟩ := B.ex
  refine F.ok S (fun vs H Q E ⟨a, ns, e, _⟩ => by rw [e]; rfl) (fun cdv A outer s H vs Q E hr h => ?_)
  obtain ⟨a, ns, rfl, hS, hl, hT, q⟩ := h
  have ok : (gOf P w K mg base k N st false T).Ok { A := A.deeper (envOfC "law" (defScope st) s.heap.objs.size f cdv), s0 := s, H0 := H, env := envOfC "law" (defScope st) s.heap.objs.size f cdv, outer := outer, stack := envOfC "law" (defScope st) s.heap.objs.size f cdv :: outer, ex := [], pn := [], xe := fun _ _ => False, E := ⟨fun _ _ _ => True, T⟩ } :=
    ⟨rfl, hr, S.nd, PassesOwn.never, fun z => Bool.noConfusion z, rfl, fun _ h => (by cases h), fun z => Bool.noConfusion z⟩
  refine ⟨tSeq (tAsg (tCall (spBegun K) [] L2.E0 (tCons (tVar 0) tNil)) (gName 1)) (t ⟨fun _ _ _ => True, T⟩), ?_, ?_⟩
  · rw [hst]
    refine pss_cons (ps_set (i := 1) ok.nd h1 (ok.loc hs) (pe_call FB (hr.mono hk) (ok.gl hg) hmB hkB hbB .nil L2.pass0 (pa_cons (pe_var h0 (S.par "script" (by simp) |>.elim Or.inl fun z => Or.inr (Or.inl z))) pa_nil)) (by rfl) (.inl rfl)) (p _ ok).1
  · have hz : 0 < N.length := by omega
    refine ⟨.ref a, rfl, a, ns, T, rfl, hS, hl, hT, fun c great cells H' hcT hs' _ _ fr => ?_⟩
    have cf := law_cf (K := K) (a := a) (T := T) hs' hcT hN2 ht.1
    refine (p _ ok).2 _ _ _ (fun _ => 0) H' _ H' (lawE N) _ _ cf ?_ ht.2 ?_
    · rw [show trn _ H' = (0 : Int).toNat from hs'.trn]
      show 0 + m.n ≤ m.n
      rw [Nat.zero_add]
      exact Nat.le_refl _
    · exact ⟨fun _ _ _ _ _ _ _ z => z.elim, fun _ _ _ _ _ _ _ z => z.elim, fun _ _ _ _ _ _ _ z => z.elim, fun d v H2 hR _ _ a1 => by
        have hR : d = .bl true := hR
        subst hR
        cases a1
        exact q H2⟩
end
end DS
/-! DS15: raw rules for the source of draws. -/
namespace DS
open PySem PySem.Spec PyProof.Rows L2
theorem blk_of {P : Program} {w : World} {K : PySem.W.Frag} {mg : Str → Option Value} {base : Heap} {k : Nat} {N : List Str} {st : Stmt} {rs : Bool} {TB : List (Addr × Str)}  {scope : Scope} {own : List (Str × Nat)} (h : blkC N (defScope st) scope own = true) : blkC (gOf P w K mg base k N st rs TB).N (gOf P w K mg base k N st rs TB).sc scope own = true := h
theorem blk_of2 {P : Program} {w : World} {K : PySem.W.Frag} {mg : Str → Option Value} {base : Heap} {k : Nat} {N : List Str} {st : Stmt} {rs : Bool} {TB : List (Addr × Str)}  {scope scope2 : Scope} {own : List (Str × Nat)} (h : blkC N (relS scope (defScope st)) scope2 own = true) : blkC ((gOf P w K mg base k N st rs TB).blk scope).N ((gOf P w K mg base k N st rs TB).blk scope).sc scope2 own = true := h
/-- a def of which nothing is promised -/
theorem fnW_void {P : Program} {w : World} {K : PySem.W.Frag} {mg : Str → Option Value} {base : Heap} {x : Str} {st : Stmt} {N ps : List Str} {n : Nat} {TB : List (Addr × Str)} (F : Have K mg x st) (S : FnScope N ps (defScope st)) (hp : ps.length = n) (hbd : BindsN st x ps) : FnW P w K mg base 1 x n ⟨fun _ _ => False, 0⟩ TB := by
  obtain ⟨f, fd, hm, F⟩ := F.ex
  subst hp
  exact ⟨⟨f, fd, ps, rfl, F.ok (k := 0) S (fun vs H Q E ⟨c, ds, R, _, a, l, _⟩ => a.length.trans l) (fun cdv A outer s H vs Q E hrm ⟨c, ds, R, _, _, _, _, h, _⟩ => h.elim), hm, F.kp, F.binds hbd⟩⟩
theorem boot_abs : bootBuiltins "abs" = some (.builtin "abs") := by decide +kernel
theorem boot_int' : bootBuiltins "int" = some (.type "int") := by decide +kernel
section
variable {g : G} {y : Dyn} (ok : g.Ok y)
include ok
theorem raw_var (i : Nat) {x : Str} {pos : Pos} (hN : g.N[i]? = some x := by rfl) (hv : g.sc.names.lookup x = some .local ∨ g.sc.names.lookup x = some .cell ∨ g.sc.names.lookup x = some .free := by first | exact Or.inl rfl | exact Or.inr (Or.inl rfl) | exact Or.inr (Or.inr rfl))
    (hd : (x == ("__debug__" : Str)) = false := by decide) (hcd : (x == ("__classdict__" : Str)) = false := by decide) : PE (g.cx y) (.Name x pos) (tVar i) := pe_var (X := g.cx y) hN (visOf ok hv) hd hcd
theorem raw_name (i : Nat) {x : Str} {pos : Pos} (hi : g.N[i]? = some x := by rfl) (hx : g.sc.names.lookup x = some .local ∨ g.sc.names.lookup x = some .cell := by first | exact Or.inl rfl | exact Or.inr rfl)
    (hf : g.fn x = true ∨ g.sc.names.lookup x = some .local := by first | exact Or.inl rfl | exact Or.inr rfl) : PG (g.cx y) (.Name x pos) (gName i) := pg_name (X := g.cx y) ok.nd hi (ok.loc hx) (ok.hf hf)
theorem raw_set (i : Nat) {x : Str} {e : Expr} {te : TE} {pos pos' : Pos} (he : PE (g.cx y) e te) (hs : swapsWith e (some (.Name x pos')) pos.line y.env = pure false) (hi : g.N[i]? = some x := by rfl) (hx : g.sc.names.lookup x = some .local ∨ g.sc.names.lookup x = some .cell := by first | exact Or.inl rfl | exact Or.inr rfl)
    (hf : g.fn x = true ∨ g.sc.names.lookup x = some .local := by first | exact Or.inl rfl | exact Or.inr rfl) : PS (g.cx y) (.Assign [.Name x pos'] e pos) (tAsg te (gName i)) := ps_set (X := g.cx y) ok.nd hi (ok.loc hx) he hs (ok.hf hf)
theorem raw_abs (i : Nat) {p1 p2 p3 : Pos} (hm : g.mg "abs" = none) (hg : g.sc.names.lookup ("abs" : Str) = some .globalImplicit := by rfl) (hN : g.N[i]? = some ("cell" : Str) := by rfl) (hv : g.sc.names.lookup ("cell" : Str) = some .local ∨ g.sc.names.lookup ("cell" : Str) = some .cell ∨ g.sc.names.lookup ("cell" : Str) = some .free := by first | exact Or.inl rfl | exact Or.inr (Or.inl rfl) | exact Or.inr (Or.inr rfl)) :
    PE (g.cx y) (.Call (.Name "abs" p1) [.Name "cell" p2] [] p3) (tCB rAbsI (tCons (tVar i) tNil)) := pe_callB call_abs (ok.gl hg) hm boot_abs (pa_cons (pe_var (X := g.cx y) hN (visOf ok hv)) pa_nil)
theorem raw_int {e : Expr} {te : TE} {p1 p3 : Pos} (hm : g.mg "int" = none) (he : PE (g.cx y) e te) (hs : starEach [e] y.env = (false, eval e y.env) :: starEach [] y.env) (hg : g.sc.names.lookup ("int" : Str) = some .globalImplicit := by rfl) :
    PE (g.cx y) (.Call (.Name "int" p1) [e] [] p3) (tCB rIntI (tCons te tNil)) := pe_callTy call_int1 (ok.gl hg) hm boot_int' (pa_cons he pa_nil hs) (by decide) (by decide) hs (by rfl)
theorem raw_par (i j : Nat) {x z : Str} {a b : Expr} {ta : TA} {px py pt pos : Pos} {kt k2 pt2} (ha : PA (g.cx y) [a, b] ta) (hij : i ≠ j := by decide) (hi : g.N[i]? = some x := by rfl) (hj : g.N[j]? = some z := by rfl)
    (hx : g.sc.names.lookup x = some .local := by rfl) (hy : g.sc.names.lookup z = some .local := by rfl)
    (hw : ∀ env : PySem.Env, env.scope = g.sc → swappedStores [.Tuple [.Name x px, .Name z py] kt pt] (.Tuple [a, b] k2 pt2) env = pure (some [x, z]) := by
      intro env h
      unfold swappedStores
      first | rfl | (simp only [Env.kindOf, Env.blockKind, h]; rfl) | (simp only [Env.kindOf, Env.blockKind, h]; decide +kernel))
    (hs : ∀ env, swapsWithSole [.Tuple [.Name x px, .Name z py] kt pt] (.Tuple [a, b] k2 pt2) pos.line env = pure false := by intro _; rfl) :
    PS (g.cx y) (.Assign [.Tuple [.Name x px, .Name z py] kt pt] (.Tuple [a, b] k2 pt2) pos) (tPar i j ta) :=
  ps_par (X := g.cx y) rfl ok.nd hi hj hij (by show y.env.scope.names.lookup x = _; rw [ok.sc]; exact hx) (by show y.env.scope.names.lookup z = _; rw [ok.sc]; exact hy) ha (hw _ ok.sc) (hs _)
end
end DS
/-! DS16: the meanings, to be read. -/
namespace DS
open PySem PySem.Spec PyProof.Rows L2
section
variable {r : Env} {W : WEnds} {R : D → Prop} {RT : Bool → Prop} {RA : List D → Prop} {RI : List D → Prop} {RO : Option Int → Prop} {RE : Env → Prop} {RS : Sl → Prop}
@[simp] theorem f_eVar {i : Nat} : (eVar i).f r R = ∃ d, r.sl[i]? = some (.sh d) ∧ R d := rfl
@[simp] theorem f_eC {d : D} : (eC d).f r R = R d := rfl
@[simp] theorem f_eOp {f a b} : (eOp f a b).f r R = a.f r fun x => b.f r fun y => ∃ z, f x y = some z ∧ R z := rfl
@[simp] theorem f_eUn {f a} : (eUn f a).f r R = a.f r fun x => ∃ z, f x = some z ∧ R z := rfl
@[simp] theorem f_tV {m} : (tV m).f r RT = m.f r fun d => ∃ b, d = .bl b ∧ RT b := rfl
@[simp] theorem f_eCh {f f' a b c} : (eCh f f' a b c).f r R = a.f r fun x => b.f r fun y => ∃ k, f x y = some (.bl k) ∧ if k = true then c.f r fun w => ∃ z, f' y w = some z ∧ R z else R (.bl false) := rfl
@[simp] theorem f_cAnd {a b} : (cAnd a b).f r RT = a.f r fun x => if x = true then b.f r RT else RT false := rfl
@[simp] theorem f_cOr {a b} : (cOr a b).f r RT = a.f r fun x => if x = true then RT true else b.f r RT := rfl
@[simp] theorem f_cNot {a} : (cNot a).f r RT = a.f r fun x => RT (!x) := rfl
@[simp] theorem f_eAnd {a b} : (eAnd a b).f r R = a.f r fun x => ∃ k, x = .bl k ∧ if k = true then b.f r R else R (.bl false) := rfl
@[simp] theorem f_eOr {a b} : (eOr a b).f r R = a.f r fun x => ∃ k, x = .bl k ∧ if k = true then R (.bl true) else b.f r R := rfl
@[simp] theorem f_eNot {a} : (eNot a).f r R = a.f r fun x => ∃ k, x = .bl k ∧ R (.bl (!k)) := rfl
@[simp] theorem f_eIf {c a b} : (eIf c a b).f r R = c.f r fun k => if k = true then a.f r R else b.f r R := rfl
@[simp] theorem f_aNil : aNil.f r RA = RA [] := rfl
@[simp] theorem f_aCons {a b} : (aCons a b).f r RA = a.f r fun x => b.f r fun xs => RA (x :: xs) := rfl
@[simp] theorem f_eTup {a} : (eTup a).f r R = a.f r fun ds => ds.length ≤ sizeLine ∧ R (.tup ds) := rfl
@[simp] theorem f_eLst {a} : (eLst a).f r R = a.f r fun ds => ds.length ≤ sizeLine ∧ R (.lst ds) := rfl
@[simp] theorem f_eCB {f a} : (eCB f a).f r R = a.f r fun ds => ∃ z, f ds = some z ∧ R z := rfl
@[simp] theorem f_eCall {F a} : (eCall F a).f r R = a.f r fun ds => F.f ds R := rfl
@[simp] theorem f_eCallK {pm F a} : (eCallK pm F a).f r R = a.f r fun ds => F.f (picks pm ds) R := rfl
@[simp] theorem f_oNo : oNo.f r RO = RO none := rfl
@[simp] theorem f_oYes {m} : (oYes m).f r RO = m.f r fun d => ∃ i, d = .int i ∧ RO (some i) := rfl
@[simp] theorem f_eSl {a lo hi} : (eSl a lo hi).f r R = a.f r fun x => lo.f r fun l => hi.f r fun h => ∃ z, slD x l h = some z ∧ R z := rfl
@[simp] theorem f_eRev {m} : (eRev m).f r R = m.f r fun d => ∃ ds, d = .tup ds ∧ R (.tup ds.reverse) := rfl
@[simp] theorem f_iSeq {m} : (iSeq m).f r RI = m.f r fun d => ∃ ds, items d = some ds ∧ RI ds := rfl
@[simp] theorem f_iRange {m} : (iRange m).f r RI = m.f r fun ds => ∃ n : Int, ds = [.int n] ∧ -(2 ^ 62) ≤ n ∧ n.toNat ≤ sizeLine ∧ RI (upto n.toNat) := rfl
@[simp] theorem f_iEnum {m} : (iEnum m).f r RI = m.f r fun ds => ∃ d l, ds = [d] ∧ items d = some l ∧ RI (numd 0 l) := rfl
@[simp] theorem f_gN {i : Nat} {d : D} : gN i d r RE = RE (r.put i d) := rfl
@[simp] theorem f_gP {i j : Nat} {d : D} : gP i j d r RE = ∃ x y, d = .tup [x, y] ∧ RE ((r.put i x).put j y) := rfl
@[simp] theorem f_cYes : cYes.f r RT = RT true := rfl
@[simp] theorem f_eLc {mi mg mc me vs} : (eLc mi mg mc me vs).f r R = mi.f r fun ds => lcW mg mc me (wipeE r vs) (fun out => R (.lst out)) ds [] := rfl
@[simp] theorem f_fLc {mi mg mc me vs} : (fLc mi mg mc me vs).f r RS = mi.f r fun ds => lcW mg mc me (wipeE r vs) (fun out => RS (.ol out)) ds [] := rfl
@[simp] theorem f_fLc2e {mi mg mc mi1 mg1 mc1 me vs vs1} : (fLc2 mi mg mc mi1 mg1 mc1 me vs vs1).e.f r R = mi.f r fun ds => ds.length ≤ 4096 ∧ lcW2 mg mc mi1 mg1 mc1 me vs1 (wipeE r vs) (fun out => R (.lst out)) ds [] := rfl
@[simp] theorem f_fLst {a} : (fLst a).f r RS = a.f r fun ds => ds.length ≤ sizeLine ∧ RS (.ol ds) := rfl
@[simp] theorem f_eGetT {i : Nat} {ma : WA} : (eGetT i ma).f r R = ∃ kvs, r.sl[i]? = some (.ot kvs) ∧ ma.f r fun ds => ∃ (k : List Key) (d : D), ds = k.map keyD ∧ ds.length ≤ sizeLine ∧ getKV kvs k = some d ∧ R d := rfl
@[simp] theorem f_eOwnIx {i : Nat} {me : WE} : (eOwnIx i me).f r R = ∃ ds, r.sl[i]? = some (.ol ds) ∧ me.f r fun z => ∃ n d, z = .int n ∧ atI ds n = some d ∧ R d := rfl
@[simp] theorem f_sNext : sNext.f W r = W.nx r := rfl
@[simp] theorem f_sSeq {a b} : (sSeq a b).f W r = a.f { W with nx := b.f W } r := rfl
@[simp] theorem f_sRet {m} : (sRet m).f W r = m.f r W.rt := rfl
@[simp] theorem f_sRetN : sRetN.f W r = W.rt .non := rfl
@[simp] theorem f_sIf {c a b} : (sIf c a b).f W r = c.f r fun k => if k = true then a.f W r else b.f W r := rfl
@[simp] theorem f_sDo {m} : (sDo m).f W r = m.f r fun _ => W.nx r := rfl
@[simp] theorem f_sSet {i m} : (sSet i m).f W r = m.f r fun d => W.nx (r.put i d) := rfl
@[simp] theorem f_sBrk : sBrk.f W r = W.bk r := rfl
@[simp] theorem f_sCnt : sCnt.f W r = W.ct r := rfl
@[simp] theorem f_sPar {i j a} : (sPar i j a).f W r = a.f r fun ds => ∃ d e, ds = [d, e] ∧ W.nx ((r.put i d).put j e) := rfl
@[simp] theorem f_sUnp {m mg} : (sUnp m mg).f W r = m.f r fun d => mg d r fun r' => W.nx r' := rfl
@[simp] theorem f_sFor {mi mg mb} : (sFor mi mg mb).f W r = mi.f r fun ds => forW mg mb W ds r := rfl
@[simp] theorem f_sOwn {i m} : (sOwn i m).f W r = m.f r fun x => i < r.sl.length ∧ W.nx (r.at i x) := rfl
@[simp] theorem f_sParO {i j m me} : (sParO i j m me).f W r = m.f r fun x => me.f r fun d => i < r.sl.length ∧ W.nx ((r.at i x).put j d) := rfl
@[simp] theorem f_sApp {i m} : (sApp i m).f W r = ∃ ds, r.sl[i]? = some (.ol ds) ∧ m.f r fun d => ds.length < sizeLine ∧ W.nx (r.at i (.ol (ds ++ [d]))) := rfl
@[simp] theorem f_sPut {i me m} : (sPut i me m).f W r = m.f r fun d => ∃ ds, r.sl[i]? = some (.ol ds) ∧ me.f r fun z => ∃ n j, z = .int n ∧ ixN ds.length n = some j ∧ W.nx (r.at i (.ol (ds.set j d))) := rfl
@[simp] theorem f_sGive {i m} : (sGive i m).f W r = ∃ ds, r.sl[i]? = some (.ol ds) ∧ m.f W (r.at i (.sh (.lst ds))) := rfl
@[simp] theorem f_sPutT {i ma m} : (sPutT i ma m).f W r = m.f r fun d => ∃ kvs, r.sl[i]? = some (.ot kvs) ∧ ma.f r fun ds => ∃ k : List Key, ds = k.map keyD ∧ ds.length ≤ sizeLine ∧ kvs.length < sizeLine ∧ W.nx (r.at i (.ot (putKV kvs k d))) := rfl
@[simp] theorem f_fnF {N m ds} : (fnF N m).f ds R = m.f { nx := fun _ => R .non, rt := R } ⟨startE N ds, fun _ => False⟩ := rfl
@[simp] theorem put_sl {i : Nat} {d : D} : (r.put i d).sl = r.sl.set i (.sh d) := rfl
@[simp] theorem at_sl {i : Nat} {x : Sl} : (r.at i x).sl = r.sl.set i x := rfl
@[simp] theorem wipe_sl {vs : List Nat} : (wipeE r vs).sl = wipeL r.sl vs := rfl
end

/-! ### loops -/
section
variable {mg : WG} {mb : WS} {mc : WT} {me : WE} {W : WEnds} {r : Env} {k : List D → Prop}
theorem forW_ind {I : List D → Env → Prop} (h0 : ∀ r, I [] r → W.nx r) (hs : ∀ d ds r (nx : Env → Prop), I (d :: ds) r → (∀ r', I ds r' → nx r') → mg d r fun r1 => mb.f { nx := nx, ct := nx, bk := W.nx, rt := W.rt } r1) : ∀ ds r, I ds r → forW mg mb W ds r
  | [], r, h => h0 r h
  | d :: ds, r, h => hs d ds r _ h fun r' h' => forW_ind h0 hs ds r' h'
theorem lcW_ind {I : List D → List D → Prop} (h0 : ∀ out, I [] out → k out) (hs : ∀ d ds out (K : List D → Prop), I (d :: ds) out → (∀ out', I ds out' → K out') → mg d r fun r1 => mc.f r1 fun b => if b = true then me.f r1 fun z => K (out ++ [z]) else K out) : ∀ ds out, I ds out → lcW mg mc me r k ds out
  | [], out, h => h0 out h
  | d :: ds, out, h => hs d ds out _ h fun out' h' => lcW_ind h0 hs ds out' h'
/-- each item is made one value, or left out -/
theorem lcW_of (p : D → Bool) (f : D → D) {ds out : List D} (h : ∀ d ∈ ds, ∀ (Kt : D → Prop) (Kf : Prop), (p d = true → Kt (f d)) → (p d = false → Kf) → mg d r fun r1 => mc.f r1 fun b => if b = true then me.f r1 Kt else Kf) (hk : k (out ++ (ds.filter p).map f)) : lcW mg mc me r k ds out := by
  induction ds generalizing out with
  | nil =>
    rw [List.filter_nil, List.map_nil, List.append_nil] at hk
    exact hk
  | cons d ds ih =>
    refine h d List.mem_cons_self _ _ (fun hp => ?_) fun hp => ?_
    · refine ih (fun e he => h e (List.mem_cons_of_mem _ he)) ?_
      rw [List.filter_cons_of_pos hp, List.map_cons] at hk
      rw [List.append_assoc]
      exact hk
    · refine ih (fun e he => h e (List.mem_cons_of_mem _ he)) ?_
      rw [List.filter_cons_of_neg (by rw [hp]; decide)] at hk
      exact hk
/-- each item is made one value -/
theorem lcW_map (f : D → D) {ds out : List D} (h : ∀ d ∈ ds, ∀ (Kt : D → Prop), Kt (f d) → mg d r fun r1 => me.f r1 Kt) (hk : k (out ++ ds.map f)) : lcW mg cYes me r k ds out := by
  induction ds generalizing out with
  | nil =>
    rw [List.map_nil, List.append_nil] at hk
    exact hk
  | cons d ds ih =>
    show mg d r fun r1 => if true = true then me.f r1 fun z => lcW mg cYes me r k ds (out ++ [z]) else lcW mg cYes me r k ds out
    refine h d List.mem_cons_self _ (ih (fun e he => h e (List.mem_cons_of_mem _ he)) ?_)
    rw [List.map_cons] at hk
    rw [List.append_assoc]
    exact hk
end

/-- isinstance of plain things -/
def isInt : D → Bool
  | .int _ => true
  | .bl _ => true
  | _ => false
def isBl : D → Bool
  | .bl _ => true
  | _ => false
def isTup : D → Bool
  | .tup _ => true
  | _ => false
def isLst : D → Bool
  | .lst _ => true
  | _ => false
def isStr : D → Bool
  | .str _ => true
  | _ => false
/-- a whole number, no bool -/
def isWh : D → Bool
  | .int _ => true
  | _ => false
theorem beq_dec (i j : Int) : (i == j) = decide (i = j) := Bool.eq_iff_iff.mpr (by simp)
theorem eqD_int (i j : Int) : eqD (.int i) (.int j) = some (.bl (decide (i = j))) := by
  simp [eqD, eqB, emp, okq, toP, PyData.eqv, PyData.depth, beq_dec]
theorem neD_int (i j : Int) : neD (.int i) (.int j) = some (.bl (!decide (i = j))) := by
  simp [neD, eqB, emp, okq, toP, PyData.eqv, PyData.depth, beq_dec]
theorem ix0 {α : Type} {x : α} {xs : List α} : atI (x :: xs) 0 = some x := atI_nat (j := 0) rfl
theorem ix1 {α : Type} {x y : α} {xs : List α} : atI (x :: y :: xs) 1 = some y := atI_nat (j := 1) rfl
theorem ix2 {α : Type} {x y z : α} {xs : List α} : atI (x :: y :: z :: xs) 2 = some z := atI_nat (j := 2) rfl
theorem ix3 {α : Type} {x y z w : α} {xs : List α} : atI (x :: y :: z :: w :: xs) 3 = some w := atI_nat (j := 3) rfl
@[simp] theorem ixD_tup {ds : List D} {i : Int} : ixD (.tup ds) (.int i) = atI ds i := rfl
@[simp] theorem ixD_lst {ds : List D} {i : Int} : ixD (.lst ds) (.int i) = atI ds i := rfl
@[simp] theorem lenD_tup {ds : List D} : lenD [.tup ds] = some (.int ds.length) := rfl
@[simp] theorem lenD_lst {ds : List D} : lenD [.lst ds] = some (.int ds.length) := rfl
@[simp] theorem items_tup {ds : List D} : items (.tup ds) = some ds := rfl
@[simp] theorem items_lst {ds : List D} : items (.lst ds) = some ds := rfl
@[simp] theorem leD_int {i j : Int} : leD (.int i) (.int j) = some (.bl (decide (i ≤ j))) := rfl
@[simp] theorem ltD_int {i j : Int} : ltD (.int i) (.int j) = some (.bl (decide (i < j))) := rfl
@[simp] theorem gtD_int {i j : Int} : gtD (.int i) (.int j) = some (.bl (decide (j < i))) := rfl
@[simp] theorem geD_int {i j : Int} : geD (.int i) (.int j) = some (.bl (decide (j ≤ i))) := rfl
@[simp] theorem subD_int {i j : Int} : subD (.int i) (.int j) = some (.int (i - j)) := rfl
@[simp] theorem addD_int {i j : Int} : addD (.int i) (.int j) = some (.int (i + j)) := rfl
theorem allD_map {bs : List Bool} : allD [.lst (bs.map .bl)] = some (.bl (bs.all id)) := by
  show (bls (bs.map .bl)).map _ = _
  rw [bls_map]; rfl
theorem allD_of {α : Type} {xs : List α} {p : α → Bool} : allD [.lst (xs.map fun x => .bl (p x))] = some (.bl (xs.all p)) := by
  have := allD_map (bs := xs.map p)
  rw [List.map_map] at this
  rw [show (xs.map fun x => D.bl (p x)) = xs.map (D.bl ∘ p) from rfl, this, List.all_map]
  rfl
theorem cut_to {α : Type} (xs : List α) (a : Nat) : cutL xs none (some (a : Int)) = xs.take a := by
  unfold cutL
  rw [HT.sIx_nat, HT.sIx_none, List.drop_zero, Nat.sub_zero]
  by_cases h : a ≤ xs.length
  · rw [Nat.min_eq_left h]
  · rw [Nat.min_eq_right (by omega), List.take_of_length_le (Nat.le_refl _), List.take_of_length_le (by omega)]
theorem cut_from {α : Type} (xs : List α) (a : Nat) : cutL xs (some (a : Int)) none = xs.drop a := by
  unfold cutL
  rw [HT.sIx_nat, HT.sIx_none]
  by_cases h : a ≤ xs.length
  · rw [Nat.min_eq_left h, List.take_of_length_le (by rw [List.length_drop]; exact Nat.le_refl _)]
  · rw [Nat.min_eq_right (by omega), List.drop_eq_nil_of_le (Nat.le_refl _), List.drop_eq_nil_of_le (by omega)]; simp
theorem cut_mid {α : Type} (xs : List α) (a b : Nat) (h : a ≤ b) (hb : b ≤ xs.length) : cutL xs (some (a : Int)) (some (b : Int)) = (xs.drop a).take (b - a) := by
  unfold cutL
  rw [HT.sIx_nat, HT.sIx_nat, Nat.min_eq_left hb, Nat.min_eq_left (by omega)]
theorem addD_tup {a b : List D} (h : a.length + b.length ≤ sizeLine) : addD (.tup a) (.tup b) = some (.tup (a ++ b)) := by
  show Option.or none (Option.or none ((if a.length + b.length ≤ sizeLine then some (D.tup (a ++ b)) else none).or (addL (.tup a) (.tup b)))) = _
  rw [if_pos h]; rfl
theorem addD_lst {a b : List D} (h : a.length + b.length ≤ sizeLine) : addD (.lst a) (.lst b) = some (.lst (a ++ b)) := by
  show Option.or none (Option.or none (Option.or none (if a.length + b.length ≤ sizeLine then some (D.lst (a ++ b)) else none))) = _
  rw [if_pos h]; rfl
theorem addD_str {a b : Str} (h : a.length + b.length ≤ sizeLine) : addD (.str a) (.str b) = some (.str (a ++ b)) := by
  show Option.or none ((if a.length + b.length ≤ sizeLine then some (D.str (a ++ b)) else none).or _) = _
  rw [if_pos h]; rfl
theorem lcW2_map {mg mg1 : WG} {mi1 : WI} {me : WE} {vs1 : List Nat} {r : Env} {k : List D → Prop} (g : D → List D) (f : D → D) {ds out : List D}
    (h : ∀ d ∈ ds, ∀ (Kt : List D → Prop) (out : List D), Kt (out ++ (g d).map f) → mg d r fun r1 => mi1.f r1 fun ds1 => ds1.length ≤ 4096 ∧ lcW mg1 cYes me (wipeE r1 vs1) Kt ds1 out) (hk : k (out ++ ds.flatMap fun d => (g d).map f)) : lcW2 mg cYes mi1 mg1 cYes me vs1 r k ds out := by
  induction ds generalizing out with
  | nil =>
    rw [List.flatMap_nil, List.append_nil] at hk
    exact hk
  | cons d ds ih =>
    show mg d r fun r1 => if true = true then mi1.f r1 fun ds1 => ds1.length ≤ 4096 ∧ lcW mg1 cYes me (wipeE r1 vs1) (fun out' => lcW2 mg cYes mi1 mg1 cYes me vs1 r k ds out') ds1 out else lcW2 mg cYes mi1 mg1 cYes me vs1 r k ds out
    refine h d List.mem_cons_self _ _ (ih (fun e he => h e (List.mem_cons_of_mem _ he)) ?_)
    rw [List.flatMap_cons] at hk
    rw [List.append_assoc]
    exact hk
theorem allD_flat {α : Type} {xs : List α} {g : α → List D} {p : D → Bool} : allD [.lst (xs.flatMap fun x => (g x).map fun s => D.bl (p s))] = some (.bl (xs.all fun x => (g x).all p)) := by
  have e : (xs.flatMap fun x => (g x).map fun s => D.bl (p s)) = (xs.flatMap fun x => (g x).map p).map .bl := by
    rw [List.map_flatMap]
    congr
    funext x
    rw [List.map_map]; rfl
  rw [e, allD_map, List.all_flatMap]
  congr
  funext x
  rw [List.all_map]; rfl
/-- what a tuple or a list holds -/
def kids : D → List D
  | .tup ds => ds
  | .lst ds => ds
  | _ => []
theorem powD_of {i j : Int} (h : CPow i j) : powD (.int i) (.int j) = some (.int (i ^ j.toNat)) := by
  show (if CPow i j then some (D.int (i ^ j.toNat)) else none) = _
  rw [if_pos h]
theorem pow6 : powD (.int 10) (.int 6) = some (.int 1000000) := powD_of ⟨by decide, by decide, by decide⟩
theorem none_left {α β : Type} (xs : List α) (p : α → Bool) (f : α → β) : ((xs.filter p).map f).isEmpty = xs.all fun x => !p x := by
  induction xs with
  | nil => rfl
  | cons x xs ih =>
    rw [List.all_cons]
    by_cases h : p x = true
    · rw [List.filter_cons_of_pos h, h]; rfl
    · rw [List.filter_cons_of_neg h, ih]; simp [h]
theorem eqB_of {x y : D} (he : emp x y = none) (hx : okq x = true) (hy : okq y = true) (hd : (toP x).depth ≤ 64) : eqB x y = some (PyData.eqv (toP x) (toP y)) := by
  unfold eqB
  rw [he, Option.none_or, if_pos ⟨hx, hy, Nat.le_trans (Nat.min_le_left _ _) hd⟩]
theorem eqD_seqL {A B : List D} (hB : B ≠ []) (hx : okqs A = true) (hy : okqs B = true) (hd : PyData.depthAll (toPs A) ≤ 63) : eqD (.lst A) (.lst B) = some (.bl (PyData.eqvAll (toPs A) (toPs B))) := by
  have he : emp (.lst A) (.lst B) = none := by
    cases B with
    | nil => exact absurd rfl hB
    | cons b B => rfl
  unfold eqD
  rw [eqB_of he (by simp only [okq]; exact hx) (by simp only [okq]; exact hy) (by simp only [toP, PyData.depth]; omega)]
  simp only [toP, PyData.eqv]
  rfl
/-- for .. in range(n) -/
theorem forR {mg : WG} {mb : WS} {W : WEnds} {n : Nat} {I : Nat → Env → Prop} (h0 : ∀ r, I n r → W.nx r) (hs : ∀ i r (nx : Env → Prop), i < n → I i r → (∀ r', I (i + 1) r' → nx r') → mg (.int (i : Nat)) r fun r1 => mb.f { nx := nx, ct := nx, bk := W.nx, rt := W.rt } r1) {r : Env} (h : I 0 r) : forW mg mb W (upto n) r := by
  refine forW_ind (I := fun rest r => ∃ i, i ≤ n ∧ rest = (upto n).drop i ∧ I i r) ?_ ?_ (upto n) r ⟨0, Nat.zero_le _, rfl, h⟩
  · rintro r ⟨i, hi, e, hI⟩
    have := congrArg List.length e
    rw [List.length_drop, upto_len, List.length_nil] at this
    have : i = n := by omega
    subst this
    exact h0 r hI
  · rintro d ds r nx ⟨i, hi, e, hI⟩ hnx
    have hlt : i < n := by
      have := congrArg List.length e
      rw [List.length_drop, upto_len, List.length_cons] at this
      omega
    have e1 : (upto n)[i]? = some d := by
      have := congrArg (fun l => l[0]?) e
      simpa [List.getElem?_drop] using this.symm
    obtain ⟨rfl, _⟩ := upto_get e1
    refine hs i r nx hlt hI fun r' h' => hnx r' ⟨i + 1, hlt, ?_, h'⟩
    have := congrArg (List.drop 1) e
    simpa [List.drop_drop, Nat.add_comm] using this
theorem upto_mem {n : Nat} {d : D} (h : d ∈ upto n) : ∃ i : Nat, d = .int i ∧ i < n := by
  obtain ⟨i, hi, e⟩ := List.mem_iff_getElem.mp h
  obtain ⟨e1, e2⟩ := upto_get (n := n) (i := i) (d := d) (by rw [List.getElem?_eq_getElem hi, e])
  exact ⟨i, e1, e2⟩
section
variable {κ α : Type} [DecidableEq κ]
theorem getKV_put (kvs : List (κ × α)) (k : κ) (v : α) : getKV (putKV kvs k v) k = some v := by
  unfold putKV
  split
  · rename_i h
    induction kvs with
    | nil => cases h
    | cons p kvs ih =>
      by_cases hk : p.1 = k
      · rw [List.map_cons, if_pos hk]
        unfold getKV
        rw [List.find?_cons_of_pos (by simpa using hk)]; rfl
      · rw [List.map_cons, if_neg hk]
        unfold getKV at ih ⊢
        rw [List.find?_cons_of_neg (by simpa using hk)]
        refine ih ?_
        rw [List.any_cons] at h
        simpa [hk] using h
  · rename_i h
    unfold getKV
    rw [List.find?_append]
    have : kvs.find? (fun kv => decide (kv.1 = k)) = none := by
      rw [List.find?_eq_none]
      intro x hx
      simp only [List.any_eq_true, not_exists, not_and] at h
      exact h x hx
    rw [this]
    simp
theorem getKV_put_ne (kvs : List (κ × α)) {k k' : κ} (v : α) (hne : k' ≠ k) : getKV (putKV kvs k v) k' = getKV kvs k' := by
  unfold putKV
  split
  · induction kvs with
    | nil => rfl
    | cons p kvs ih =>
      rename_i hh
      have ih' : getKV (kvs.map fun kv => if kv.1 = k then (kv.1, v) else kv) k' = getKV kvs k' := by
        clear ih hh
        induction kvs with
        | nil => rfl
        | cons q kvs ih =>
          rw [List.map_cons]
          unfold getKV at ih ⊢
          by_cases hq : q.1 = k
          · rw [if_pos hq, List.find?_cons_of_neg (by simpa [hq] using Ne.symm hne), List.find?_cons_of_neg (by simpa [hq] using Ne.symm hne)]
            exact ih
          · rw [if_neg hq]
            by_cases hq2 : q.1 = k'
            · rw [List.find?_cons_of_pos (by simpa using hq2), List.find?_cons_of_pos (by simpa using hq2)]
            · rw [List.find?_cons_of_neg (by simpa using hq2), List.find?_cons_of_neg (by simpa using hq2)]
              exact ih
      rw [List.map_cons]
      unfold getKV at ih' ⊢
      by_cases hq : p.1 = k
      · rw [if_pos hq, List.find?_cons_of_neg (by simpa [hq] using Ne.symm hne), List.find?_cons_of_neg (by simpa [hq] using Ne.symm hne)]
        exact ih'
      · rw [if_neg hq]
        by_cases hq2 : p.1 = k'
        · rw [List.find?_cons_of_pos (by simpa using hq2), List.find?_cons_of_pos (by simpa using hq2)]
        · rw [List.find?_cons_of_neg (by simpa using hq2), List.find?_cons_of_neg (by simpa using hq2)]
          exact ih'
  · unfold getKV
    rw [List.find?_append]
    cases e : kvs.find? (fun kv => decide (kv.1 = k')) with
    | some x => rfl
    | none =>
      rw [List.find?_cons_of_neg (by simpa using Ne.symm hne)]
      rfl
theorem putKV_len (kvs : List (κ × α)) (k : κ) (v : α) : (putKV kvs k v).length ≤ kvs.length + 1 := by
  unfold putKV
  split
  · rw [List.length_map]; omega
  · rw [List.length_append, List.length_singleton]; exact Nat.le_refl _
end
end DS
/-! DS17: in, not in; while; three names. -/
namespace DS
open PySem PySem.Spec PyProof.Rows L2

/-! ### in, not in -/
def inL (x : D) (ys : List D) : Option Bool := if okq x = true ∧ okqs ys = true ∧ min (PyData.depthAll (toPs ys)) (toP x).depth ≤ 64 then some ((toPs ys).any fun z => PyData.eqv z (toP x)) else none
def inB (x y : D) : Option Bool := match y with
  | .lst ys => inL x ys
  | .tup ys => inL x ys
  | .str b => match x with
    | .str a => some (!(Builtin.Str.occurrences b a 0 b.length 1).isEmpty)
    | _ => none
  | _ => none
def inD (x y : D) : Option D := (inB x y).map .bl
def ninD (x y : D) : Option D := (inB x y).map fun b => .bl (!b)
def rInA (K : PySem.W.Frag) (f : Bool → Bool) : R2 := fun x y H Q => (∃ d ds, Dp K H x d ∧ (Dp K H y (.list ds) ∨ Dp K H y (.tuple ds)) ∧ d.canLay0 = true ∧ PyData.canLayAll0 ds = true ∧ min (PyData.depthAll ds) d.depth ≤ 64 ∧ Q (.bl (f (ds.any fun z => PyData.eqv z d))) H) ∨
  (∃ i j, x = .str i ∧ y = .str j ∧ Q (.bl (f (!(Builtin.Str.occurrences j i 0 j.length 1).isEmpty))) H)
theorem op_inA {X : Cx} (hu : X.A.units + 66 < cLine) : OpR X (compareOp .In) (rInA X.K fun b => b) := by
  intro pins s σ H x y v u Q I rx ry h
  rcases h with ⟨d, ds, hd, he, sd, se, hm, q⟩ | h
  · obtain ⟨as, r1⟩ := Dp.reads I d x v hd rx
    rcases he with he | he
    · obtain ⟨bs, r2⟩ := Dp.reads I (.list ds) y u he ry
      exact SeqAt.in_list_reads r2 r1 se sd (by omega) ⟨.bl _, H, I, rfl, q⟩
    · obtain ⟨bs, r2⟩ := Dp.reads I (.tuple ds) y u he ry
      exact SeqAt.in_tuple_reads r2 r1 se sd (by omega) ⟨.bl _, H, I, rfl, q⟩
  · exact op_in_str pins s σ H x y v u Q I rx ry h
theorem op_ninA {X : Cx} (hu : X.A.units + 66 < cLine) : OpR X (compareOp .NotIn) (rInA X.K fun b => !b) := by
  intro pins s σ H x y v u Q I rx ry h
  rcases h with ⟨d, ds, hd, he, sd, se, hm, q⟩ | h
  · obtain ⟨as, r1⟩ := Dp.reads I d x v hd rx
    rcases he with he | he
    · obtain ⟨bs, r2⟩ := Dp.reads I (.list ds) y u he ry
      exact SeqAt.notIn_list_reads r2 r1 se sd (by omega) ⟨.bl _, H, I, rfl, q⟩
    · obtain ⟨bs, r2⟩ := Dp.reads I (.tuple ds) y u he ry
      exact SeqAt.notIn_tuple_reads r2 r1 se sd (by omega) ⟨.bl _, H, I, rfl, q⟩
  · exact op_notin_str pins s σ H x y v u Q I rx ry h
theorem s_inf {K : PySem.W.Frag} {f : Bool → Bool} : SemO K (fun x y => (inB x y).map fun b => .bl (f b)) (rInA K f) := by
  intro c H v u x y z Q ho a b e k
  have e : (inB x y).map (fun b => D.bl (f b)) = some z := e
  have seq : ∀ {ys : List D} {ws : List V}, AtL K c H ws ys → inL x ys = inB x y → (∀ w, okqs ys = true → inL x ys = some w → Dp K H u (.list (toPs ys)) ∨ Dp K H u (.tuple (toPs ys))) → rInA K f v u H Q := by
    intro ys ws r e1 h
    rw [← e1] at e
    cases hq : inL x ys with
    | none => rw [hq] at e; cases e
    | some w =>
      have hq' := hq
      unfold inL at hq'
      split at hq'
      · rename_i hc
        cases hq'
        rw [hq] at e
        cases e
        exact .inl ⟨_, _, a.dp hc.1, h _ hc.2.1 hq, a.lay hc.1, r.lay hc.2.1, hc.2.2, k _ H (Step.refl ho.inv) (.bl _)⟩
      · cases hq'
  cases b with
  | @lst a0 xs ds h l r => exact seq r rfl fun w hk _ => .inl (by have := At.dp (d := .lst ds) (by simp only [okq]; exact hk) (At.lst h l r); simpa only [toP] using this)
  | @tup a0 xs ds h l r => exact seq r rfl fun w hk _ => .inr (by have := At.dp (d := .tup ds) (by simp only [okq]; exact hk) (At.tup h l r); simpa only [toP] using this)
  | str j hj =>
    cases a with
    | str i hi => cases e; exact .inr ⟨i, j, rfl, rfl, k _ H (Step.refl ho.inv) (.bl _)⟩
    | _ => cases e
  | _ => cases e
theorem s_in {K} : SemO K inD (rInA K fun b => b) := s_inf
theorem s_nin {K} : SemO K ninD (rInA K fun b => !b) := s_inf
theorem Room.u66 {k : Nat} {A : Around} (r : Room k A) : A.units + 66 < cLine := by have := r.un; omega

/-! ### while -/
def sWhile (mc : WT) (mb : WS) : WS := ⟨fun W r => ∃ J : Nat → Env → Prop, (∃ m, m ≤ sizeLine ∧ J m r) ∧ ∀ m r, J m r → mc r fun b => if b = true then mb { nx := fun r' => ∃ m', m' < m ∧ J m' r', ct := fun r' => ∃ m', m' < m ∧ J m' r', bk := W.nx, rt := W.rt } r else W.nx r, (sizeLine + 1) * (mc.n + mb.n)⟩
theorem sem_while {K : PySem.W.Frag} {E : EX} {mc : WT} {mb : WS} {tc : TT} {tb : TS} (hc : SemT K E mc tc) (hb : SemS K E mb tb) : SemS K E (sWhile mc mb) (tWhile tc tb) := by
  intro B c0 c ad H0 s H r W X cf bd hm k
  obtain ⟨J, ⟨m0, hm0, hJ0⟩, hJ⟩ := hm
  have bd' : trn c.sd H + (sizeLine + 1) * (mc.n + mb.n) ≤ B := bd
  have kk : (m0 + 1) * (mc.n + mb.n) ≤ (sizeLine + 1) * (mc.n + mb.n) := Nat.mul_le_mul_right _ (by omega)
  refine ⟨fun m σ H2 => ∃ c' ad' r', Evo c H c' H2 ∧ trn c'.sd H2 + (m + 1) * (mc.n + mb.n) ≤ trn c.sd H + (m0 + 1) * (mc.n + mb.n) ∧ Cf K B c0 c' ad' H0 E σ H2 r' ∧ J m r', ⟨m0, c, ad, r, Evo.refl, Nat.le_refl _, cf, hJ0⟩, ?_⟩
  rintro m σ H2 ⟨c', ad', r', ev, le, cf2, hj⟩
  have k1 : (m + 1) * (mc.n + mb.n) = m * (mc.n + mb.n) + (mc.n + mb.n) := Nat.succ_mul _ _
  refine hc B c0 c' ad' H0 σ H2 r' _ _ cf2 (by omega) (hJ m r' hj) fun b H3 hb3 s3 => ?_
  have cf3 := cf2.step s3
  have e3 := cf2.evo s3
  have s3l := s3.3
  have top : ∀ x : Nat, x ≤ trn c'.sd H2 + (mc.n + mb.n) → x ≤ trn c.sd H + (sizeLine + 1) * (mc.n + mb.n) := fun x hx => by omega
  cases b with
  | true =>
    rw [if_pos rfl] at hb3 ⊢
    refine ⟨fun σ' H' => ∃ m', m' < m ∧ ∃ c'' ad'' r'', Evo c H c'' H' ∧ trn c''.sd H' + (m' + 1) * (mc.n + mb.n) ≤ trn c.sd H + (m0 + 1) * (mc.n + mb.n) ∧ Cf K B c0 c'' ad'' H0 E σ' H' r'' ∧ J m' r'', fun σ' H' h => h, ?_⟩
    have step : ∀ (x m' : Nat), m' < m → x ≤ trn c'.sd H3 + mb.n → x + (m' + 1) * (mc.n + mb.n) ≤ trn c.sd H + (m0 + 1) * (mc.n + mb.n) := by
      intro x m' h1 h2
      have : (m' + 1) * (mc.n + mb.n) ≤ m * (mc.n + mb.n) := Nat.mul_le_mul_right _ h1
      omega
    refine hb B c0 c' ad' H0 σ H3 r' _ _ cf3 (by omega) hb3 ?_
    exact ⟨fun c5 ad5 s5 H5 r5 e5 l5 ⟨m', h1, hj5⟩ cf5 => ⟨m', h1, c5, ad5, r5, (ev.trans e3).trans e5, step _ m' h1 l5, cf5, hj5⟩, fun c5 ad5 s5 H5 r5 e5 l5 hw5 cf5 => k.nx c5 ad5 s5 H5 r5 ((ev.trans e3).trans e5) (top _ (by omega)) hw5 cf5,
      fun c5 ad5 s5 H5 r5 e5 l5 ⟨m', h1, hj5⟩ cf5 => ⟨m', h1, c5, ad5, r5, (ev.trans e3).trans e5, step _ m' h1 l5, cf5, hj5⟩, fun d v H' q st l5 => k.rt d v H' q st (top _ (by omega))⟩
  | false =>
    rw [if_neg Bool.false_ne_true] at hb3 ⊢
    exact k.nx c' ad' σ H3 r' (ev.trans e3) (top _ (by omega)) hb3 cf3
theorem ds_while {g : G} {c : Expr} {body : List Stmt} {mc : WT} {mb : WS} {pos : Pos} (hc : DT g c mc) (hb : DSs g body mb) : DSt g (.While c body [] pos) (sWhile mc mb) :=
  let ⟨tc, pc⟩ := hc; let ⟨t, p⟩ := hb; ⟨fun E => tWhile (tc E) (t E), fun y ok => ⟨ps_while ok.po (pc y ok).1 (p y ok).1, sem_while (pc y ok).2 (p y ok).2⟩⟩

/-! ### more targets -/
/-- several names -/
def putAll (r : Env) : List Nat → List D → Env
  | i :: is, d :: ds => putAll (r.put i d) is ds
  | _, _ => r
def gNs (is : List Nat) : WG := fun d r R => ∃ ds, d = .tup ds ∧ ds.length = is.length ∧ R (putAll r is ds)
def gNamesT : List Nat → TGs
  | [] => gNil
  | i :: is => gCons (gName i) (gNamesT is)
theorem putAll_own : ∀ {is : List Nat} {ds : List D} {r : Env} {j : Nat} {z : Sl}, (putAll r is ds).sl[j]? = some z → z.own → r.sl[j]? = some z
  | [], _, _, _, _, e, _ => e
  | _ :: _, [], _, _, _, e, _ => e
  | i :: is, d :: ds, r, j, z, e, o => put_own (putAll_own (is := is) (ds := ds) e o) o
theorem names_sem {K : PySem.W.Frag} {E : EX} {B : Nat} {c0 c : Co} {ad : Nat → Addr} {H0 H : Hp} {R : L2.St → Hp → Prop} : ∀ {is : List Nat} {ds : List D} {vs : List V} {s s0 : L2.St} {r : Env}, AtL K c H vs ds → ds.length = is.length → Cf K B c0 c ad H0 E s H r →
    (∀ s', Cf K B c0 c ad H0 E s' H (putAll r is ds) → (∀ ws : List Nat, (∀ i ∈ is, i ∈ ws) → L2.wipe s' ws = L2.wipe s ws) → R s' H) → gNamesT is vs s H R
  | [], [], _, s, s0, r, .nil, _, cf, k => ⟨rfl, k s cf fun _ _ => rfl⟩
  | i :: is, d :: ds, _, s, s0, r, .cons (v := v) (vs := vs) a t, hl, cf, k => by
    refine ⟨v, vs, rfl, ?_⟩
    refine names_sem (s0 := s) (is := is) t (by simpa using hl) (cf.put i a) fun s' cf' hw => k s' cf' fun ws hws => ?_
    rw [hw ws fun j hj => hws j (List.mem_cons_of_mem _ hj), wipe_set (hws i List.mem_cons_self)]
  | [], _ :: _, _, _, _, _, _, hl, _, _ => by cases hl
  | _ :: _, [], _, _, _, _, _, hl, _, _ => by cases hl
/-- targets that are names -/
inductive NamesAt (g : G) : List Expr → List Nat → Prop
  | nil : NamesAt g [] []
  | cons {x : Str} {pos : Pos} {i : Nat} {es : List Expr} {is : List Nat} (hi : g.N[i]? = some x) (hx : g.sc.names.lookup x = some .local ∨ g.sc.names.lookup x = some .cell) (hf : g.fn x = true ∨ g.sc.names.lookup x = some .local) : NamesAt g es is → NamesAt g (.Name x pos :: es) (i :: is)
theorem na_cons {g : G} (i : Nat) {x : Str} {pos : Pos} {es : List Expr} {is : List Nat} (h : NamesAt g es is) (hi : g.N[i]? = some x := by rfl) (hx : g.sc.names.lookup x = some .local ∨ g.sc.names.lookup x = some .cell := by first | exact Or.inl rfl | exact Or.inr rfl) (hf : g.fn x = true ∨ g.sc.names.lookup x = some .local := by first | exact Or.inl rfl | exact Or.inr rfl) :
    NamesAt g (.Name x pos :: es) (i :: is) := .cons hi hx hf h
theorem NamesAt.len {g : G} {es : List Expr} {is : List Nat} (h : NamesAt g es is) : es.length = is.length := by
  induction h with
  | nil => rfl
  | cons _ _ _ _ ih => rw [List.length_cons, List.length_cons, ih]
theorem NamesAt.pgs {g : G} {y : Dyn} (ok : g.Ok y) {es : List Expr} {is : List Nat} (h : NamesAt g es is) : PGs (g.cx y) es (gNamesT is) := by
  induction h with
  | nil => exact pgs_nil
  | cons hi hx hf _ ih => exact pgs_cons (pg_name (X := g.cx y) ok.nd hi (ok.loc hx) (ok.hf hf)) ih
theorem dg_names {g : G} {es : List Expr} {is : List Nat} {k : Nat} {pos : Pos} (h : NamesAt g es is) (hn : ∀ env, (assignEach es env).length = es.length := by intro _; rfl) (hst : ∀ env, (assignEach es env).findIdx? (·.1) = none := by intro _; rfl) : DG g (.Tuple es k pos) (gNs is) is := by
  refine ⟨fun _ => gTup g.K es.length (gNamesT is), fun y ok => ⟨pg_tup rfl (h.pgs ok) (hn _) (hst _), ?_⟩⟩
  intro B c0 c ad H0 s H r v d R Q cf a hm kk
  obtain ⟨ds, rfl, hl, hR⟩ := hm
  cases a with
  | @tup a0 xs ds h1 l r1 =>
    exact ⟨_, _, rfl, h1.sq, by rw [r1.length, hl, h.len], names_sem (s0 := s) r1 hl cf fun s' cf' hw => kk s' _ hR cf' hw fun j z e o => putAll_own e o⟩
end DS
/-! DS18: errors that leave a def. -/
namespace DS
open PySem PySem.Spec PyProof.Rows L2

/-! ### own classes of errors, made with nothing -/
theorem pmk_own0 {X : Cx} {C : Addr} {bmB : List Value} {Bn newId initId : String} {x : Str} {p pos : Pos} (F : ExcBaseFacts Bn newId initId bmB) (q : PySem.W.excIn X.K C bmB newId = true) (gC : X.mg x = some (.ref C))
    (kC : PySem.W.keepIn X.K (.ref C) = true) (r : Raises X (.ref C)) (hg : Gl X x) (hdb : (x == ("__debug__" : Str)) = false := by decide) :
    PMk X (.Call (.Name x p) [] [] pos) (fun _ H Q => Q (.ref C) none H) := by
  intro pins s σ H Q I h
  refine wpAny_Call_Name_kw (ld_glob I hg gC ?_ hdb)
  refine PySem.W.callWith_K0 I.kIn kC ?_
  show wpAny _ _ (call (.ref C) []) _ _ _
  obtain ⟨bm, N, nm, qn, bs, hdct, sn, sub, ab, col, dd, k0, k1, k2, k3, k5, mN, hC, hN, hni, T⟩ := exc_obj I.kIn q
  refine wpAny_call_exc_subT F T hC hN hni (fun h' e hm => ?_) (Nat.zero_le _)
  exact mk_of I hm r h (I.hok.gone hm.new)
structure OwnE (K : PySem.W.Frag) (mg : Str → Option Value) (x : Str) : Prop where
  ex : ∃ C bm Bn newId initId, PySem.W.nsIn K mainGlobals x = some (some (.ref C)) ∧ mg x = some (.ref C) ∧ PySem.W.keepIn K (.ref C) = true ∧ ExcBaseFacts Bn newId initId bm ∧ PySem.W.excIn K C bm newId = true ∧
    PySem.W.subIn K (.ref C) (.type "BaseException") = some true ∧ PySem.W.typeIn K (.ref C) = some (.type "type")
theorem clK_of {K : PySem.W.Frag} {x : Str} {C : Addr} (h : PySem.W.nsIn K mainGlobals x = some (some (.ref C))) : clK K x = C := by unfold clK; rw [h]
def sRaise (x : Str) : WS := ⟨fun _ r => r.ew ⟨x, []⟩, 0⟩
theorem ds_raise0 {g : G} {x : Str} {p p2 pos : Pos} (T : OwnE g.K g.mg x) (hr : g.rs = true := by rfl) (hg : g.sc.names.lookup x = some .globalImplicit := by rfl) (hdb : (x == ("__debug__" : Str)) = false := by decide) : DSt g (.Raise (some (.Call (.Name x p) [] [] p2)) none pos) (sRaise x) := by
  obtain ⟨C, bm, Bn, newId, initId, e1, e2, e3, F, e4, e5, e6⟩ := T.ex
  refine ⟨fun E => fun _ σ H => E (.ref C) none H, fun y ok => ⟨ps_raise (X := g.cx y) rfl (ok.tk hr).2 (pmk_own0 F e4 e2 e3 (raises_own e5 e6) (ok.gl hg) hdb), ?_⟩⟩
  intro B c0 c ad H0 s H r W X cf bd hm k
  have := cf.ex ⟨x, []⟩ hm none H cf.st (by rw [← cf.sd]; exact bd) rfl
  rw [clK_of e1] at this
  exact this

/-! ### defs that may raise -/
structure WFx where
  f : List D → (D → Prop) → (Ex → Prop) → Prop
  n : Nat
def spX (K : PySem.W.Frag) (n : Nat) (F : WFx) (T : List (Addr × Str) := []) : Sp := fun vs H Q E => ∃ c ds R ew, Ho c H ∧ AtL K c H vs ds ∧ ds.length = n ∧ (trn c.sd H + F.n ≤ most ∧ c.T = T) ∧ F.f ds R ew ∧ (∀ d v H', R d → Step F.n c H H' → At K c H' v d → Q v H') ∧ ∀ x, ew x → ∀ dd H', Step F.n c H H' → ExAt K c H' dd x.fs → E (.ref (clK K x.cls)) dd H'
structure FnX (P : Program) (w : World) (K : PySem.W.Frag) (mg : Str → Option Value) (base : Heap) (k : Nat) (x : Str) (n : Nat) (F : WFx) (T : List (Addr × Str) := []) : Prop where
  ex : ∃ f fd ps, ps.length = n ∧ FnOk P w K mg base (L2.CX P w) k f fd ps (spX K n F T) ∧ mg x = some (.ref f) ∧ PySem.W.keepIn K (.ref f) = true ∧ Binds K fd ps []
theorem FnX.imp {P : Program} {w : World} {K : PySem.W.Frag} {mg : Str → Option Value} {base : Heap} {k : Nat} {x : Str} {n : Nat} {F F' : WFx} {T : List (Addr × Str)} (h : FnX P w K mg base k x n F T) (hn : F.n ≤ F'.n) (hi : ∀ ds R ew, ds.length = n → F'.f ds R ew → F.f ds R ew) : FnX P w K mg base k x n F' T := by
  obtain ⟨f, fd, ps, l, F1, r⟩ := h.ex
  refine ⟨⟨f, fd, ps, l, F1.imp fun vs H Q E ⟨c, ds, R, ew, h1, h2, h3, hb, h4, h5, h6⟩ => ⟨c, ds, R, ew, h1, h2, h3, ⟨by have := hb.1; omega, hb.2⟩, hi ds R ew h3 h4, fun d v H' q st => h5 d v H' q (st.mono hn), fun x hx dd H' st => h6 x hx dd H' (st.mono hn)⟩, r⟩⟩
def fnFx (N : List Str) (m : WS) : WFx := ⟨fun ds R ew => m.f { nx := fun _ => R .non, rt := R } ⟨startE N ds, ew⟩, m.n⟩
theorem fnX_of {P : Program} {w : World} {K : PySem.W.Frag} {mg : Str → Option Value} {base : Heap} {x : Str} {st : Stmt} {N ps : List Str} {m : WS} {k : Nat} {TB : List (Addr × Str)} (F : Have K mg x st) (S : FnScope N ps (defScope st)) (hp : ps.length ≤ N.length) (hbd : BindsN st x ps) (hb : DSs (gOf P w K mg base k N st true TB) (defBody st) m) :
    FnX P w K mg base (k + 1) x ps.length (fnFx N m) TB := by
  obtain ⟨f, fd, hm, F⟩ := F.ex
  obtain ⟨t, p⟩ := hb
  refine ⟨⟨f, fd, ps, rfl, F.okX S (fun vs H Q E ⟨c, ds, R, ew, _, a, l, _⟩ => a.length.trans l) (fun cdv A outer s H vs Q E hr h => ?_), hm, F.kp, F.binds hbd⟩⟩
  obtain ⟨c, ds, R, ew, ho, a, l, bd, hF, k1, k2⟩ := h
  have tk : L2.Takes (cxOf (L2.CX P w) P w K mg base N x (defScope st) f cdv A outer s H E) (fun cls d _ H => E cls d H) := takes_of rfl rfl rfl rfl
  have ok : (gOf P w K mg base k N st true TB).Ok { A := A.deeper (envOfC x (defScope st) s.heap.objs.size f cdv), s0 := s, H0 := H, env := envOfC x (defScope st) s.heap.objs.size f cdv, outer := outer, stack := envOfC x (defScope st) s.heap.objs.size f cdv :: outer, ex := [], pn := [], xe := (cxOf (L2.CX P w) P w K mg base N x (defScope st) f cdv A outer s H E).xe, E := ⟨E, TB⟩ } :=
    ⟨rfl, hr, S.nd, passes_of (X := cxOf (L2.CX P w) P w K mg base N x (defScope st) f cdv A outer s H E) (K := fun e s'' => L2.CX P w outer H s E e s'') (E₁ := fun e' s'' => L2.CX P w outer H s E e' s'') rfl, fun _ => ⟨passes_call tk (fun _ _ _ _ h => h), tk⟩, rfl, fun _ h => (by cases h), fun z => Bool.noConfusion z⟩
  refine ⟨t ⟨E, TB⟩, (p _ ok).1, ?_⟩
  refine (p _ ok).2 (trn c.sd H + m.n) c c (fun _ => 0) H (start N vs) H ⟨startE N ds, ew⟩ _ _ (start_cf (E := ⟨E, TB⟩) ho bd.2 a (by omega) bd.1 fun x hx dd H' st le xa => k2 x hx dd H' ⟨st.1, st.2, le⟩ xa) (Nat.le_refl _) hF ?_
  exact ⟨fun c' ad' s' H' r' _ le hR cf => k1 .non .non H' hR ⟨cf.st.1, cf.st.2, by rw [cf.sd] at le; exact le⟩ .non, fun _ _ _ _ _ _ _ z => z.elim, fun _ _ _ _ _ _ _ z => z.elim, fun d v H' hR s1 le a1 => k1 d v H' hR ⟨s1.1, s1.2, le⟩ a1⟩
/-- such a def is called where its errors leave -/
def eCallX (F : WFx) (a : WA) : WE := ⟨fun r R => a r fun ds => F.f ds R r.ew, a.n + F.n⟩
/-- .. where none comes -/
def eCallN (F : WFx) (a : WA) : WE := ⟨fun r R => a r fun ds => F.f ds R fun _ => False, a.n + F.n⟩
theorem ExAt.back {K : PySem.W.Frag} {c c0 : Co} {H : Hp} {dd : Option Addr} {fs : List (Str × D)} (h : ExAt K c H dd fs) (hs : c0.sd = c.sd) (le : ∀ b, c0.O b → c.O b) : ExAt K c0 H dd fs := by
  cases fs with
  | nil => exact h
  | cons p fs =>
    obtain ⟨d, vs, e1, e2, a⟩ := h
    exact ⟨d, vs, e1, e2, a.evo ⟨hs, fun b o e _ n => ⟨e, fun z => n (le b z)⟩⟩⟩
section
variable {g : G} {x : Str} {j : Nat} {F : WFx} {e : Expr} {es : List Expr} {ma : WA} {p pos : Pos}
theorem de_callX (hf : FnX g.P g.w g.K g.mg g.base j x (e :: es).length F g.T) (ha : DA g (e :: es) ma) (hr : g.rs = true := by rfl) (hj : j ≤ g.k := by exact Nat.le_of_ble_eq_true rfl) (hg : g.sc.names.lookup x = some .globalImplicit := by rfl)
    (hd : (x == ("__debug__" : Str)) = false := by decide) (he : ∀ env, starEach (e :: es) env = (false, eval e env) :: starEach es env := by intro _; rfl)
    (hpl : ∀ env, (backTo pos (starEach es env)).any (·.1) = false := by intro _; rfl) : DE g (.Call (.Name x p) (e :: es) [] pos) (eCallX F ma) := by
  obtain ⟨t, q⟩ := ha
  obtain ⟨f, fd, ps, l, F1, hm, hk, hb⟩ := hf.ex
  refine ⟨fun E => tCall (spX g.K (e :: es).length F g.T) [] E.e (t E), fun y ok => ⟨pe_call (X := g.cx y) F1 (ok.room.mono hj) (ok.gl hg) hm hk hb .nil (ok.tk hr).1 (q y ok).1 hd (he _) (hpl _), ?_⟩⟩
  intro B c0 c ad H0 s H r R Q cf bd hm2 k
  refine (q y ok).2 B c0 c ad H0 s H r _ _ cf (bd1 bd) hm2 fun ds vs H1 hx hn s1 a1 => ?_
  have cf1 := cf.step s1
  show spX g.K _ F g.T (vs ++ []) H1 Q y.E.e
  rw [List.append_nil]
  refine ⟨c, ds, R, r.ew, cf1.ho, a1, hn, ⟨Nat.le_trans (bd2 bd s1.3) cf.top, cf.sT.trans (cf.tT.trans ok.tb)⟩, hx, fun d v H' hR s2 a2 => k d v H' hR (s1.trans s2) a2, fun z hz dd H' s2 xa => ?_⟩
  have cf2 := cf1.step s2
  refine cf.ex z hz dd H' cf2.st ?_ (xa.back cf.sd.symm cf.le)
  have h1 := s1.3
  have h2 := s2.3
  have bd' : trn c.sd H + (ma.n + F.n) ≤ B := bd
  rw [← cf.sd]
  omega
theorem de_callN (hf : FnX g.P g.w g.K g.mg g.base j x (e :: es).length F g.T) (ha : DA g (e :: es) ma) (hj : j ≤ g.k := by exact Nat.le_of_ble_eq_true rfl) (hg : g.sc.names.lookup x = some .globalImplicit := by rfl)
    (hd : (x == ("__debug__" : Str)) = false := by decide) (he : ∀ env, starEach (e :: es) env = (false, eval e env) :: starEach es env := by intro _; rfl)
    (hpl : ∀ env, (backTo pos (starEach es env)).any (·.1) = false := by intro _; rfl) : DE g (.Call (.Name x p) (e :: es) [] pos) (eCallN F ma) := by
  obtain ⟨t, q⟩ := ha
  obtain ⟨f, fd, ps, l, F1, hm, hk, hb⟩ := hf.ex
  refine ⟨fun E => tCall (spX g.K (e :: es).length F g.T) [] L2.E0 (t E), fun y ok => ⟨pe_call (X := g.cx y) F1 (ok.room.mono hj) (ok.gl hg) hm hk hb .nil passL (q y ok).1 hd (he _) (hpl _), ?_⟩⟩
  intro B c0 c ad H0 s H r R Q cf bd hm2 k
  refine (q y ok).2 B c0 c ad H0 s H r _ _ cf (bd1 bd) hm2 fun ds vs H1 hx hn s1 a1 => ?_
  have cf1 := cf.step s1
  show spX g.K _ F g.T (vs ++ []) H1 Q L2.E0
  rw [List.append_nil]
  exact ⟨c, ds, R, fun _ => False, cf1.ho, a1, hn, ⟨Nat.le_trans (bd2 bd s1.3) cf.top, cf.sT.trans (cf.tT.trans ok.tb)⟩, hx, fun d v H' hR s2 a2 => k d v H' hR (s1.trans s2) a2, fun z hz => hz.elim⟩
end
end DS
/-! DS19: more built-ins, methods of str. -/
namespace DS
open PySem PySem.Spec PyProof.Rows L2

/-! ### ints and strs out of data -/
def intsD : List D → Option (List Int)
  | [] => some []
  | .int b :: r => (intsD r).map (b :: ·)
  | _ :: _ => none
def strsD : List D → Option (List Str)
  | [] => some []
  | .str b :: r => (strsD r).map (b :: ·)
  | _ :: _ => none
theorem intsD_inv : ∀ {ds : List D} {bs : List Int}, intsD ds = some bs → ds = bs.map .int
  | [], _, h => by cases h; rfl
  | .int b :: r, bs, h => by
    have h : (intsD r).map (b :: ·) = some bs := h
    cases q : intsD r with
    | none => rw [q] at h; cases h
    | some x => rw [q] at h; cases h; rw [List.map_cons, intsD_inv q]
theorem intsD_map (bs : List Int) : intsD (bs.map .int) = some bs := by
  induction bs with
  | nil => rfl
  | cons b r ih => show (intsD (r.map .int)).map (b :: ·) = _; rw [ih]; rfl
theorem strsD_inv : ∀ {ds : List D} {bs : List Str}, strsD ds = some bs → ds = bs.map .str
  | [], _, h => by cases h; rfl
  | .str b :: r, bs, h => by
    have h : (strsD r).map (b :: ·) = some bs := h
    cases q : strsD r with
    | none => rw [q] at h; cases h
    | some x => rw [q] at h; cases h; rw [List.map_cons, strsD_inv q]
theorem strsD_map (bs : List Str) : strsD (bs.map .str) = some bs := by
  induction bs with
  | nil => rfl
  | cons b r ih => show (strsD (r.map .str)).map (b :: ·) = _; rw [ih]; rfl

/-! ### min, max, ord, str, repr, sum, sorted -/
def min2D : List D → Option D
  | [.int i, .int j] => some (.int (if j < i then j else i))
  | _ => none
def max2D : List D → Option D
  | [.int i, .int j] => some (.int (if j > i then j else i))
  | _ => none
theorem s_min2 {K : PySem.W.Frag} : SemC K min2D (fun xs H Q => ∃ i j, xs = [.int i, .int j] ∧ Q (.int (if j < i then j else i)) H) := by
  intro c H vs ds z Q ho a e k
  match ds, a, e with
  | [.int i, .int j], .cons (.int _) (.cons (.int _) .nil), e => cases e; exact ⟨i, j, rfl, k _ H (Step.refl ho.inv) (.int _)⟩
theorem s_max2 {K : PySem.W.Frag} : SemC K max2D (fun xs H Q => ∃ i j, xs = [.int i, .int j] ∧ Q (.int (if j > i then j else i)) H) := by
  intro c H vs ds z Q ho a e k
  match ds, a, e with
  | [.int i, .int j], .cons (.int _) (.cons (.int _) .nil), e => cases e; exact ⟨i, j, rfl, k _ H (Step.refl ho.inv) (.int _)⟩
def ordD : List D → Option D
  | [.str x] => if x.length = 1 then some (.int (x.cps.getD 0 0 : Nat)) else none
  | _ => none
theorem s_ord {K : PySem.W.Frag} : SemC K ordD (fun xs H Q => ∃ x, xs = [.str x] ∧ x.length = 1 ∧ Q (.int (x.cps.getD 0 0 : Nat)) H) := by
  intro c H vs ds z Q ho a e k
  match ds, a, e with
  | [.str x], .cons (.str _ _) .nil, e =>
    have e : (if x.length = 1 then some (D.int (x.cps.getD 0 0 : Nat)) else none) = some z := e
    split at e
    · rename_i h; cases e; exact ⟨x, rfl, h, k _ H (Step.refl ho.inv) (.int _)⟩
    · cases e
/-- str(i), repr(i) -/
theorem strOk_ofString (z : String) : PyData.strOk (Str.ofString z) = true := by
  rw [strOk_iff]
  intro c hc
  have e : (Str.ofString z).cps.toList = z.toList.map Char.toNat := by unfold Str.ofString; first | exact cpsOfBytes_string z | simp [cpsOfBytes_string] | (show (cpsOfBytes 0 0 _).toArray.toList = _; rw [List.toList_toArray]; exact cpsOfBytes_string z)
  rw [e, List.mem_map] at hc
  obtain ⟨ch, _, rfl⟩ := hc
  have h := ch.valid
  rcases h with h | ⟨_, h⟩
  · exact Nat.lt_trans h (by decide)
  · exact h
theorem sok_int {i : Int} (h : i.natAbs.log2 < 1920) : SOk (toString i : String) := ⟨int_text_fits h, strOk_ofString _⟩
theorem sok_join {a : Str} (ha : SOk a) {ys : List Str} (hy : ∀ y ∈ ys, SOk y) (hl : (ys.map (·.length)).sum + ys.length * a.length ≤ 16777216) : SOk (Txt.join a ys) := by
  rw [TL.join_eq]
  refine ⟨?_, strOk_iff.mpr fun c hc => ?_⟩
  · have : ∀ l : List Str, (Str.join a l).length ≤ (l.map (·.length)).sum + l.length * a.length := by
      intro l
      induction l with
      | nil => exact Nat.zero_le _
      | cons x l ih =>
        cases l with
        | nil => show x.length ≤ _; simp only [List.map_cons, List.sum_cons, List.map_nil, List.sum_nil, List.length_cons]; omega
        | cons z r =>
          have e : (Str.join a (x :: z :: r)).length = x.length + a.length + (Str.join a (z :: r)).length := by
            show (x.cps ++ a.cps ++ (Str.join a (z :: r)).cps).size = _
            rw [Array.size_append, Array.size_append]; rfl
          rw [e, List.map_cons, List.sum_cons, List.length_cons, Nat.succ_mul]
          omega
    have := this ys
    rw [sizeLine_eq]; omega
  · rcases (PyProof.Rows.mem_join a c ys).mp hc with ⟨t, ht, hc⟩ | ⟨_, hc⟩
    · exact strOk_iff.mp (hy t ht).2 c hc
    · exact strOk_iff.mp ha.2 c hc
def okS (p : Str) : Bool := decide (p.length ≤ sizeLine) && PyData.strOk p
theorem okS_sok {p : Str} (h : okS p = true) : SOk p := by
  unfold okS at h
  rw [Bool.and_eq_true, decide_eq_true_eq] at h
  exact h
def strID : List D → Option D
  | [.int i] => if i.natAbs.log2 < 1920 then some (.str (toString i)) else none
  | _ => none
theorem s_strI {K : PySem.W.Frag} : SemC K strID (fun xs H Q => ∃ i : Int, xs = [.int i] ∧ i.natAbs.log2 < 1920 ∧ Q (.str (toString i)) H) := by
  intro c H vs ds z Q ho a e k
  match ds, a, e with
  | [.int i], .cons (.int _) .nil, e =>
    have e : (if i.natAbs.log2 < 1920 then some (D.str (toString i)) else none) = some z := e
    split at e
    · rename_i h; cases e; exact ⟨i, rfl, h, k _ H (Step.refl ho.inv) (.str _ (sok_int h))⟩
    · cases e
def sumD : List D → Option D
  | [.lst ds] => (intsD ds).map fun ns => .int ns.sum
  | _ => none
theorem s_sum {K : PySem.W.Frag} : SemC K sumD (rSum K) := by
  intro c H vs ds z Q ho a e k
  match ds, a, e with
  | [.lst ds], .cons (.lst h l r) .nil, e =>
    have e : (intsD ds).map (fun ns => D.int ns.sum) = some _ := e
    cases q : intsD ds with
    | none => rw [q] at e; cases e
    | some bs =>
      rw [q] at e
      cases e
      rw [intsD_inv q] at r
      exact ⟨_, bs, rfl, by rw [← r.ints]; exact h.sq, k _ H (Step.refl ho.inv) (.int _)⟩
/-- ints in order -/
def sortI (ns : List Int) : List Int := ns.mergeSort fun a b => decide (a ≤ b)
theorem sortI_perm (ns : List Int) : (sortI ns).Perm ns := List.mergeSort_perm ns _
theorem sortI_pw (ns : List Int) : (sortI ns).Pairwise (· ≤ ·) := by
  have h : (sortI ns).Pairwise fun a b => decide (a ≤ b) = true := List.pairwise_mergeSort (le := fun a b : Int => decide (a ≤ b)) (fun a b c h1 h2 => by simp only [decide_eq_true_eq] at *; omega) (fun a b => by simp only [Bool.or_eq_true, decide_eq_true_eq]; omega) ns
  exact h.imp fun h => of_decide_eq_true h
theorem sortI_of {ns ms : List Int} (h : ms.Perm ns) (hp : ms.Pairwise (· ≤ ·)) : ms = sortI ns :=
  List.Perm.eq_of_pairwise (le := fun a b : Int => a ≤ b) (fun a b _ _ h1 h2 => by omega) hp (sortI_pw ns) (h.trans (sortI_perm ns).symm)
def sortedID : List D → Option D
  | [.lst ds] => (intsD ds).map fun ns => .lst ((sortI ns).map .int)
  | _ => none
theorem s_sortedI {K : PySem.W.Frag} : SemC K sortedID (rSortedI K) := by
  intro c H vs ds z Q ho a e k
  match ds, a, e with
  | [.lst ds], .cons (.lst h l r) .nil, e =>
    have e : (intsD ds).map (fun ns => D.lst ((sortI ns).map .int)) = some _ := e
    cases q : intsD ds with
    | none => rw [q] at e; cases e
    | some bs =>
      rw [q] at e
      cases e
      rw [intsD_inv q] at r
      refine ⟨_, bs, rfl, by rw [← r.ints]; exact h.sq, fun ms p hm hp hn => ?_⟩
      rw [sortI_of hm hp]
      refine k _ _ (ho.new hn) (ho.lst hn ?_ (AtL.of_ints _))
      have := l
      rw [r.ints, List.length_map] at this
      rw [List.length_map, (sortI_perm bs).length_eq]
      exact this

/-! ### methods of str -/
def eM1 (f : D → D → Option D) (a b : WE) : WE := ⟨fun r R => a r fun x => (∃ z, x = .str z) ∧ b r fun y => ∃ z, f x y = some z ∧ R z, a.n + b.n⟩
def SemM (K : PySem.W.Frag) (f : D → D → Option D) (r : V → List V → Hp → VK → Prop) : Prop := ∀ c H v u x y z Q, Ho c H → At K c H v x → At K c H u y → f x y = some z → (∀ v' H', Step 0 c H H' → At K c H' v' z → Q v' H') → r v [u] H Q
theorem sem_m1 {K : PySem.W.Frag} {E : EX} {f : D → D → Option D} {r : V → List V → Hp → VK → Prop} {a b : WE} {ta tb : TE} (h : SemM K f r) (ha : SemE K E a ta) (hb : SemE K E b tb) : SemE K E (eM1 f a b) (tM1 r ta tb) := by
  intro B c0 c ad H0 s H rr R Q cf bd hm k
  refine ha B c0 c ad H0 s H rr _ _ cf (bd1 bd) hm fun x v H1 hx s1 a1 => ?_
  obtain ⟨⟨zs, rfl⟩, hx⟩ := hx
  refine ⟨by cases a1; exact ⟨_, rfl⟩, hb B c0 c ad H0 s H1 rr _ _ (cf.step s1) (bd2 bd s1.3) hx fun y u H2 hy s2 a2 => ?_⟩
  obtain ⟨z, e, hR⟩ := hy
  have cf2 := (cf.step s1).step s2
  exact h c H2 v u _ y z Q cf2.ho (a1.evo ((cf.step s1).evo s2)) a2 e fun v' H' s3 a3 => k z v' H' hR ((s1.trans s2).trans s3) a3
def joinD (x y : D) : Option D := match x with
  | .str a => match y with
    | .lst ds => (strsD ds).bind fun ys => if (ys.map (·.length)).sum + ys.length * a.length ≤ 16777216 then some (.str (Txt.join a ys)) else none
    | .tup ds => (strsD ds).bind fun ys => if (ys.map (·.length)).sum + ys.length * a.length ≤ 16777216 then some (.str (Txt.join a ys)) else none
    | _ => none
  | _ => none
def splitD (x y : D) : Option D := match x with
  | .str a => match y with
    | .str b => if (b.length == 0) = false ∧ a.length + 2 ≤ sizeLine ∧ (Txt.split a b).length ≤ sizeLine ∧ (Txt.split a b).all okS = true then some (.lst ((Txt.split a b).map .str)) else none
    | _ => none
  | _ => none
theorem s_join {K : PySem.W.Frag} : SemM K joinD (fun x xs H Q => ∃ a p, ∃ ys : List Str, x = .str a ∧ xs = [.ref p] ∧ (SqL K H p (ys.map V.str) ∨ SqT K H p (ys.map V.str)) ∧ (ys.map (·.length)).sum + ys.length * a.length ≤ 16777216 ∧ Q (.str (Txt.join a ys)) H) := by
  intro c H v u x y z Q ho a b e k
  cases a with
  | str s hs =>
    have go : ∀ ds : List D, ((strsD ds).bind fun ys => if (ys.map (·.length)).sum + ys.length * s.length ≤ 16777216 then some (D.str (Txt.join s ys)) else none) = some z → ∀ {vs : List V}, AtL K c H vs ds → ∃ ys : List Str, ds = ys.map .str ∧ (ys.map (·.length)).sum + ys.length * s.length ≤ 16777216 ∧ Q (.str (Txt.join s ys)) H := by
      intro ds e vs r
      cases q : strsD ds with
      | none => rw [q] at e; cases e
      | some ys =>
        rw [q] at e
        have e : (if (ys.map (·.length)).sum + ys.length * s.length ≤ 16777216 then some (D.str (Txt.join s ys)) else none) = some z := e
        split at e
        · rename_i h; cases e; exact ⟨ys, strsD_inv q, h, k _ H (Step.refl ho.inv) (.str _ (sok_join hs (by rw [strsD_inv q] at r; exact r.soks) h))⟩
        · cases e
    cases b with
    | lst h l r =>
      obtain ⟨ys, rfl, h1, h2⟩ := go _ e r
      exact ⟨s, _, ys, rfl, rfl, .inl (by rw [← r.strs]; exact h.sq), h1, h2⟩
    | tup h l r =>
      obtain ⟨ys, rfl, h1, h2⟩ := go _ e r
      exact ⟨s, _, ys, rfl, rfl, .inr (by rw [← r.strs]; exact h.sq), h1, h2⟩
    | _ => cases e
  | _ => cases e
theorem s_split {K : PySem.W.Frag} : SemM K splitD (fun x xs H Q => ∃ a b, x = .str a ∧ xs = [.str b] ∧ (b.length == 0) = false ∧ a.length + 2 ≤ sizeLine ∧ rNewStrs (Txt.split a b) H Q) := by
  intro c H v u x y z Q ho a b e k
  cases a with
  | str s hs =>
    cases b with
    | str t ht =>
      have e : (if (t.length == 0) = false ∧ s.length + 2 ≤ sizeLine ∧ (Txt.split s t).length ≤ sizeLine ∧ (Txt.split s t).all okS = true then some (D.lst ((Txt.split s t).map .str)) else none) = some z := e
      split at e
      · rename_i h
        cases e
        exact ⟨s, t, rfl, rfl, h.1, h.2.1, fun p hp => k _ _ (ho.new hp) (ho.lst hp (by rw [List.length_map]; exact h.2.2.1) (AtL.of_strs _ fun b hb => okS_sok (List.all_eq_true.mp h.2.2.2 b hb)))⟩
      · cases e
    | _ => cases e
  | _ => cases e
section
variable {g : G} {o e : Expr} {mo me : WE} {apos pos : Pos}
theorem de_join (ho : DE g o mo) (he : DE g e me) (hs : ∀ env, starEach [e] env = [(false, eval e env)] := by intro _; rfl) (hb : ∀ env, attributeBase o "join" env (eval o env) = eval o env := by intro _; rfl) (hl : (apos.endLine == pos.line) = true := by rfl) :
    DE g (.Call (.Attribute o "join" apos) [e] [] pos) (eM1 joinD mo me) := by
  obtain ⟨ta, pa⟩ := ho
  obtain ⟨tb, pb⟩ := he
  exact ⟨fun E => tM1 _ (ta E) (tb E), fun y ok => ⟨pe_join (pa y ok).1 (pb y ok).1 (hs _) (hb _) hl, sem_m1 s_join (pa y ok).2 (pb y ok).2⟩⟩
theorem de_split (ho : DE g o mo) (he : DE g e me) (hs : ∀ env, starEach [e] env = [(false, eval e env)] := by intro _; rfl) (hb : ∀ env, attributeBase o "split" env (eval o env) = eval o env := by intro _; rfl) (hl : (apos.endLine == pos.line) = true := by rfl) :
    DE g (.Call (.Attribute o "split" apos) [e] [] pos) (eM1 splitD mo me) := by
  obtain ⟨ta, pa⟩ := ho
  obtain ⟨tb, pb⟩ := he
  exact ⟨fun E => tM1 _ (ta E) (tb E), fun y ok => ⟨pe_split (pa y ok).1 (pb y ok).1 (hs _) (hb _) hl, sem_m1 s_split (pa y ok).2 (pb y ok).2⟩⟩
end
end DS
/-! DS20: a caught error held as a value. -/
namespace DS
open PySem PySem.Spec PyProof.Rows L2

section
variable {X : Cx} {pins : List (Addr × Obj)} {σ : L2.St} {H : Hp} {s : Shared}
/-- an object that is new since the entry may be tracked, though it was not laid by us -/
theorem inv_track {a : Addr} {o : HO} (I : Inv X pins σ H s) (hn : H a = none) (h0 : X.s_0.heap.get? a = none) (hL : a ≠ X.env.locals) (hc : ∀ v, ¬ s.heap.IsCell a v) (hp : ∀ p ∈ X.pn ++ pins, p.1 ≠ a) (new : ObjOk X.prog X.w (upd H a o) s.heap a o) :
    Inv X pins σ (upd H a o) s := by
  have ne : ∀ b u, X.s_0.heap.get? b = some u → b ≠ a := fun b u e z => by rw [z, h0] at e; cases e
  have nH : ∀ b u, H b = some u → b ≠ a := fun b u e z => by rw [z, hn] at e; cases e
  refine ⟨I.ok, I.os, I.bare, ⟨I.base.keep, I.base.slot, fun b u e n q => ?_, I.base.there, fun b xs e => ?_, fun b u xs e => ?_, fun b ps e => ?_⟩, I.loc, I.cell, ?_, fun x c e => ?_, fun p hm => ?_, I.hok.laidN (fun _ _ z => z) hn new, I.len⟩
  · rw [upd_ne (ne b u e)]; exact I.base.free b u e n q
  · have q := I.base.tups b xs e
    rw [upd_ne (nH b _ q)]; exact q
  · have q := I.base.frzs b u xs e
    rw [upd_ne (nH b _ q)]; exact q
  · obtain ⟨m, q⟩ := I.base.tbls b ps e
    exact ⟨m, by rw [upd_ne (nH b _ q)]; exact q⟩
  · rw [upd_ne (Ne.symm hL)]; exact I.free
  · rw [upd_ne fun z => ?_]
    · exact I.freeC x c e
    · obtain ⟨v, hv⟩ := I.cell x c e
      rw [z] at hv
      exact hc v hv
  · obtain ⟨q1, q2, q3⟩ := I.pin p hm
    exact ⟨q1, by rw [upd_ne (hp p hm)]; exact q2, q3⟩
end
/-- what the clause asks of an error that reaches it -/
def wKeep (K : PySem.W.Frag) (m : Nat) (c : Value) (i : Nat) (ts : Addr → Value → Option Addr → TS) (D : Ends) : WX := fun cls d σ H =>
  PySem.W.exmOne K cls c = some true ∧ (σ.length = m → ∀ a, H a = none → ts a cls d { nx := fun σ' H' => D.nx (σ'.set i none) (upd H' a (ExT cls d a)), rt := fun _ _ => False } (σ.set i (some (.ref a))) H)
section
variable {X : Cx} {x n : Str} {c : Value} {i : Nat} {body suite : List Stmt} {b₀ : Stmt} {np pos pos' : Pos} {tb : WX → TS} {ts : Addr → Value → Option Addr → TS}
/-- try: body / except x as n: suite; the error stays known behind the suite -/
theorem ps_try_keep (hs : X.stack = X.env :: X.outer) (hf : X.env.frame = some X.env.locals) (hex : X.ex = []) (hN : X.N.Nodup) (hi : X.N[i]? = some n) (hln : X.env.kindOf n = some .local) (hc : Names X x c)
    (hb : ∀ (W : WX) (pn : List (Addr × Obj)) (xe : Value → Shared → Prop), Takes (X.tr pn xe) W → PassesOwn (model X.prog X.w) X.A X.env xe → PSs (X.tr pn xe) body (tb W))
    (hsu : ∀ (a : Addr) (oe : Obj) (cls : Value) (d : Option Addr) (pn : List (Addr × Obj)), Zc cls d oe → (∃ vs, oe.data = .fields vs) → PSs (X.suite a ((a, oe) :: pn)) (b₀ :: suite) (ts a cls d)) :
    PS X (.Try body [.ExceptHandler (some (.Name x np)) (some n) (b₀ :: suite) pos'] [] [] pos) (fun D σ H => tb (wKeep X.K X.N.length c i ts D) D σ H) := by
  refine ⟨fun pins s σ H D I h => ?_⟩
  have ok := I.ok
  refine wpAny_Try_except (wpAny_mono ((hb (wKeep X.K X.N.length c i ts D) (X.pn ++ pins) (fun e s₁ => wpAny (model X.prog X.w) X.A (noteFrame e X.env) (fun _ s₂ => wpAny (model X.prog X.w) X.A (setFlight e none) (fun _ s₃ =>
    wpAny (model X.prog X.w) X.A (handleBy e X.env [.ExceptHandler (some (.Name x np)) (some n) (b₀ :: suite) pos']) (SP X pins D) X.xe s₃) X.xe s₂) X.xe s₁) (fun u s' xx => ?_) PassesOwn.looking).run [] s σ H D (I.toTry _) h) (fun f s1 hsp => ?_) (fun e s1 he => he))
  · obtain ⟨a, B, sI, pins', σ', H', cls, d, rfl, J', nb, up, sky, na, os, ag, hb1, hyes⟩ := xx
    have J : Inv X pins σ' H' sI := J'.ofTry ok
    refine Sky.land Zc.steady (by rw [ok.frames, hs]) hf (by rw [← hs]; exact sky) fun h3 fl3 up3 => ?_
    have J3 : Inv X pins σ' H' { s' with heap := h3 } := J.landed nb fl3.1 (up.trans up3) os ag
    obtain ⟨oe3, vs3, he3, hz3, hd3⟩ := fl3.there
    have nfr : a ∉ frs (X.env :: X.outer) := fun hm => by
      obtain ⟨_, o', e', hnf⟩ := fl3.2.2.1.mem hm
      rw [he3] at e'; cases e'
      exact hnf _ hd3
    have nL : a ≠ X.env.locals := fun z => nfr (List.mem_filterMap.mpr ⟨X.env, List.mem_cons_self, by rw [hf, z]⟩)
    have nF : a ∉ X.fs := fun hm => by
      obtain ⟨e, he, q⟩ := List.mem_filterMap.mp hm
      exact nfr (List.mem_filterMap.mpr ⟨e, List.mem_cons_of_mem _ he, q⟩)
    have nI : ∀ b o, sI.heap.get? b = some o → b ∉ frs X.stack → b ≠ a := fun b o e q z => by
      have := nb b o e q
      rw [z, fl3.2.1] at this
      cases this
    have n0 : X.s_0.heap.get? a = none := by
      cases q : X.s_0.heap.get? a with
      | none => rfl
      | some o =>
        obtain ⟨o', e'⟩ := J.base.there a o q (by rw [hex]; exact fun z => nomatch z)
        exact absurd rfl (nI a o' e' (by rw [hs]; exact nfr))
    have nP : ∀ p ∈ X.pn ++ pins, p.1 ≠ a := fun p hp => by
      obtain ⟨e1, _, e3, e4, _⟩ := J.pin p hp
      refine nI _ _ e1 fun hm => ?_
      rw [hs] at hm
      obtain ⟨e, he, q⟩ := List.mem_filterMap.mp hm
      rcases List.mem_cons.mp he with rfl | he
      · rw [hf] at q
        exact e3 (Option.some.inj q).symm
      · exact e4 (List.mem_filterMap.mpr ⟨e, he, q⟩)
    have S3 := J3.suite he3 hd3 na nL nF
    refine wpAny_handleBy_cons (codeAny_handlers_test ?_) (by intro q; cases q)
    have LT : PySem.W.Looks (model X.prog X.w) h3 (typeOf (.ref a)) cls := fun A Q E s k q => wpAny_typeOf_ref (k _ _ he3) (by rw [hz3.1]; exact q)
    have LM := PySem.W.exm_one (M := model X.prog X.w) (J3.kIn) LT hb1
    have test : ∀ {Q : Value → Shared → Prop} {E : Value → Shared → Prop}, Q c { s' with heap := h3 } → wpAny (model X.prog X.w) (X.A.mark (some (.ref a))) (eval (.Name x np) X.env) Q E { s' with heap := h3 } := fun {Q E} q => by
      obtain ⟨hg, hdbg, hm | ⟨hm, hv, hnn⟩⟩ := hc
      · exact ld_glob (X := X.suite a ((a, oe3) :: (X.pn ++ pins))) S3 hg hm q hdbg
      · exact ld_blt (X := X.suite a ((a, oe3) :: (X.pn ++ pins))) S3 hg hm hv q hnn hdbg
    refine test (LM.here (codeAny_handlers_suite_as (HandSPX.lands_againZ fl3 fun h4 fl4 up4 => ?_)))
    have J4 : Inv X pins σ' H' { s' with heap := h4 } := J.landed nb fl4.1 ((up.trans up3).trans up4) os ag
    obtain ⟨oe4, vs4, he4, hz4, hd4⟩ := fl4.there
    refine store_ok (X := X.suite a ((a, oe4) :: (X.pn ++ pins))) (v := .ref a) (J4.suite he4 hd4 na nL nF) hN hi (.inl hln) rfl (fun s5 S5 => ?_) (.inr hln)
    refine wpAny_mono ((hsu a oe4 cls d (X.pn ++ pins) hz4 ⟨_, hd4⟩).run [] s5 _ H' _ S5 (hyes J.len a na)) (fun f s6 hsp => ?_) (fun _ _ z => False.elim z)
    cases f with
    | next =>
      obtain ⟨σ6, H6, S6, q6⟩ := hsp
      have P6 : Inv X ((a, oe4) :: pins) σ6 H6 s6 := ⟨ok, S6.os, S6.bare, S6.base, S6.loc, S6.cell, S6.free, S6.freeC, fun p hp => S6.pin p (List.mem_append_left _ (by
        rcases List.mem_append.mp hp with z | z
        · exact List.mem_cons_of_mem _ (List.mem_append_left _ z)
        · rcases List.mem_cons.mp z with rfl | z
          · exact List.mem_cons_self
          · exact List.mem_cons_of_mem _ (List.mem_append_right _ z))), S6.hok, S6.len⟩
      refine gone_ok P6 hN hi hln fun s7 P7 => ?_
      obtain ⟨g1, g2, _, _, g5⟩ := P7.pin (a, oe4) (List.mem_append_right _ List.mem_cons_self)
      have J7 : Inv X pins (σ6.set i none) H6 s7 := ⟨ok, P7.os, P7.bare, P7.base, P7.loc, P7.cell, P7.free, P7.freeC, fun p hp => P7.pin p (by
        rcases List.mem_append.mp hp with z | z
        · exact List.mem_append_left _ z
        · exact List.mem_append_right _ (List.mem_cons_of_mem _ z)), P7.hok, P7.len⟩
      exact ⟨_, _, inv_track J7 g2 n0 nL (fun v ⟨o, e1, e2⟩ => by rw [g1] at e1; cases e1; exact g5 v e2) nP (exT_ok g1 hz4 hd4), q6⟩
    | brk =>
      obtain ⟨_, _, _, q6⟩ := hsp
      exact False.elim q6
    | cont =>
      obtain ⟨_, _, _, q6⟩ := hsp
      exact False.elim q6
    | ret u =>
      obtain ⟨_, _, _, _, _, q6⟩ := hsp
      exact False.elim q6
  · cases f with
    | next =>
      obtain ⟨σ', H', J', q⟩ := hsp
      exact wpAny_execs_nil ⟨σ', H', J'.ofTry ok, q⟩
    | brk =>
      obtain ⟨σ', H', J', q⟩ := hsp
      exact ⟨σ', H', J'.ofTry ok, q⟩
    | cont =>
      obtain ⟨σ', H', J', q⟩ := hsp
      exact ⟨σ', H', J'.ofTry ok, q⟩
    | ret u =>
      obtain ⟨v, σ', H', J', r, q⟩ := hsp
      exact ⟨v, σ', H', J'.ofTry ok, r, q⟩
end
/-! ### caught = None; try: work() / except x as error: caught = error; return caught -/
open LamX in
def TTc (K : PySem.W.Frag) (CS : Addr) : (XK → Hp → VK → Prop) → Hp → VK → Prop := fun tl H Q =>
  tl (fun cls dd H' => PySem.W.exmOne K cls (.ref CS) = some true ∧ ∀ a, H' a = none → Q (.ref a) (upd H' a (ExT cls dd a))) H fun _ H' => ∃ v, (some (some V.non) : Option (Option V)) = some (some v) ∧ Q v H'
open LamX in
theorem caught_gives {X : Cx} {x a v e q en : Str} {sg : Scope} {g CS : Addr} {cdg : Value} {j : Nat} {p1 p2 p3 p4 p5 p6 p7 p8 p9 p10 p11 p12 p13 p14 : Pos} (hge : sg.names.lookup en = some .globalImplicit) (hme : X.mg en = some (.ref CS)) (hde : (en == ("__debug__" : Str)) = false)
    (hN : [a, v, e].Nodup) (hv : sg.names.lookup v = some .local) (he : sg.names.lookup e = some .local) (dv : (v == ("__debug__" : Str)) = false) (cv : (v == ("__classdict__" : Str)) = false) (dd : (e == ("__debug__" : Str)) = false) (cd : (e == ("__classdict__" : Str)) = false) :
    GivesTo X [a, v, e] x sg g cdg [.Assign [.Name v p1] (.Constant .none j p2) p3, .Try [.Expr (.Call (.Name a p4) [] [] p5) p6] [.ExceptHandler (some (.Name en p7)) (some e) [.Assign [.Name v p8] (.Name e p9) p10] p11] [] [] p12, .Return (some (.Name v p13)) p14] a q (TTc X.K CS) := by
  intro f c' s H Q tl act hc h
  have hgl : Gl (cxOf C8.CX0 X.prog X.w X.K X.mg X.base [a, v, e] x sg g cdg X.A X.stack s H C8.E0).nox en := hge
  refine ⟨_, pss_cons (ps_set (i := 1) hN rfl (.inl hv) pe_non rfl (.inr hv)) (pss_cons (ps_try_keep (X := (cxOf C8.CX0 X.prog X.w X.K X.mg X.base [a, v, e] x sg g cdg X.A X.stack s H C8.E0).nox) (c := .ref CS) (i := 2)
      (tb := fun W D σ H => ∃ Ech : XK, (∀ cls d σ' H', Ech cls d H' → W cls d σ' H') ∧ σ[0]? = some (some (.ref f)) ∧ H c' = some (CodeO c' q) ∧ tl Ech H fun _ H' => D.nx σ H')
      (ts := fun _ _ _ => tAsg (tVar 2) (gName 1))
      rfl rfl rfl hN rfl he ⟨hgl, hde, .inl hme⟩ (fun W pn xe tk _ => ?_) (fun a oe cls d pn _ _ => pss_one (ps_set (i := 1) hN rfl (.inl hv) (pe_var (i := 2) rfl (.inl he) dd cd) rfl (.inr hv)))) (pss_one (ps_ret (pe_var (i := 1) rfl (.inl hv) dv cv)))), ?_⟩
  · refine ⟨fun pins s' σ H' D I h' => ?_⟩
    obtain ⟨Ech, hW, h1, h2, h3⟩ := h'
    exact (pss_one (ps_expr (pos := p6) (act W pn xe Ech p4 p5 tk hW))).run pins s' σ H' D I ⟨h1, h2, h3⟩
  · refine ⟨fun cls dd H' => PySem.W.exmOne X.K cls (.ref CS) = some true ∧ ∀ a, H' a = none → Q (.ref a) (upd H' a (ExT cls dd a)), fun cls d σ' H' hE => ⟨hE.1, fun hl b hb => ?_⟩, rfl, hc, ?_⟩
    rotate_left
    · exact h
    · match σ', hl with
      | [s0, s1, s2], _ => exact ⟨.ref b, rfl, .ref b, rfl, hE.2 b hb⟩
/-- isinstance(e, c), e a tracked error -/
def rIsT (K : PySem.W.Frag) : List V → Hp → VK → Prop := fun xs H Q => ∃ (a D : Addr) (c : V) (cv : Value) (b : Bool), xs = [.ref a, c] ∧ H a = some (ExT (.ref D) none a) ∧ ExcC K D ∧ (∀ u, RelV c u → u = cv) ∧ PySem.W.kitOne K (.ref D) cv = some b ∧ Q (.bl b) H
theorem call_isT {X : Cx} : CallR X (.builtin "isinstance") (rIsT X.K) := by
  intro pins s σ H xs us Q I r h
  obtain ⟨a, D, c, cv, b, rfl, ha, C, hcv, e, q⟩ := h
  cases r with
  | cons rx rr =>
    cases rr with
    | cons rt rr =>
      cases rr
      cases rx
      have ec := hcv _ rt
      subst ec
      obtain ⟨⟨oe, vs, hget, hz, hv⟩, _⟩ := I.hok a _ ha
      have J : PySem.W.InstAt s.heap a oe D none := by
        obtain ⟨oc, od, oda, osl⟩ := oe
        obtain ⟨h1, h2⟩ := hz
        dsimp only at h1 h2 hv
        subst h1 h2 hv
        exact ⟨hget, rfl, rfl, trivial⟩
      exact PySem.W.kia_one (PySem.W.handS_kitx_exc C.hg C.hk C.hs C.hd C.ha C.hn C.ht C.hm) I.kIn J e (fun z => nomatch z) fun tk => ⟨.bl b, H, I.kept (t' := tk) fun _ _ z => z, rfl, q⟩
end DS
/-! DS21: a lambda handed to the def that catches errors. -/
namespace DS
open PySem PySem.Spec PyProof.Rows L2

/-- own lists and dicts are not seen by a lambda -/
def Sl.hide : Sl → Sl
  | .un => .un
  | .sh d => .sh d
  | .ol _ => .un
  | .ok _ => .un
  | .ot _ => .un
def hideE (r : Env) (ew : Ex → Prop) : Env := ⟨r.sl.map Sl.hide, ew⟩
/-- _law_caught(lambda: e): None, or the error -/
def eCaught (cs : List Str) (m : WE) : WE := ⟨fun r R => m.f (hideE r fun x => x.cls ∈ cs ∧ x.fs = [] ∧ R (.err x.cls [] [])) fun _ => R .non, m.n⟩
theorem step_ext {c : Co} {H H1 : Hp} (hi : StInv c H) (e : LamX.ExtN H H1) (t : LamX.Tabs c.T H1) : Step 0 c H H1 := by
  obtain ⟨great, cells, left, turn, hs⟩ := hi.st
  have hs0 := hs
  obtain ⟨h1, h2, h3, h4, h5, h6, h7, h8, _⟩ := hs
  have hs1 : StAt c H1 great cells left turn := ⟨e _ _ h1 nTK, e _ _ h2 nTL, e _ _ h3 nTL, h4, h5, h6, h7, h8, t⟩
  refine ⟨hs1.inv, fun b o e1 _ _ n => e b o e1 n, ?_⟩
  rw [hs1.trn, hs0.trn]
  exact Nat.le_refl _
theorem hide_own {r : Env} {ew : Ex → Prop} {i : Nat} {x : Sl} (e : (hideE r ew).sl[i]? = some x) : ¬ x.own := by
  have e : (r.sl.map Sl.hide)[i]? = some x := e
  rw [List.getElem?_map] at e
  cases q : r.sl[i]? with
  | none => rw [q] at e; cases e
  | some z => rw [q] at e; cases e; cases z <;> exact id
theorem sem_caught {K : PySem.W.Frag} {E : EX} {cs : List Str} {m : WE} {t : EX → TE} {CS : Addr} (hm : ∀ E' : EX, E'.T = E.T → SemE K E' m (t E')) (hcs : ∀ x ∈ cs, PySem.W.exmOne K (.ref (clK K x)) (.ref CS) = some true ∧ ErrK K x) :
    SemE K E (eCaught cs m) (LamX.tLam E.T (TTc K CS) fun e => t ⟨e, E.T⟩) := by
  intro B c0 c ad H0 s H r R Q cf bd hr k
  have hT : c.T = E.T := cf.sT.trans cf.tT
  refine ⟨by rw [← hT]; exact cf.inv.tabs, fun H1 eN t1 => ?_⟩
  have s1 : Step 0 c H H1 := step_ext cf.inv eN (by rw [hT]; exact t1)
  have cf1 := cf.step s1
  have cfL : Cf K (trn c.sd H1 + m.n) c c ad H1 ⟨fun cls dd H' => PySem.W.exmOne K cls (.ref CS) = some true ∧ ∀ a, H' a = none → Q (.ref a) (upd H' a (ExT cls dd a)), E.T⟩ s H1 (hideE r fun x => x.cls ∈ cs ∧ x.fs = [] ∧ R (.err x.cls [] [])) :=
    { sd := rfl, sg := rfl, scl := rfl, sT := rfl, tT := hT, le := fun _ h => h, st := Run.refl s1.inv, dom := cf1.dom, dom0 := cf1.dom, osd := cf1.osd, osg := cf1.osg
      own := fun i x e o => absurd o (hide_own e)
      inj := fun i j x z e _ o => absurd o (hide_own e)
      sl := fun i x e => by
        have e : (r.sl.map Sl.hide)[i]? = some x := e
        rw [List.getElem?_map] at e
        cases q : r.sl[i]? with
        | none => rw [q] at e; cases e
        | some z =>
          rw [q] at e
          cases e
          have h := cf1.sl i z q
          cases z with
          | sh d => exact h
          | _ => exact SlAt.un
      len := by rw [cf1.len]; exact (List.length_map _).symm
      ex := fun x hx dd H' run le xa => by
        obtain ⟨h1, h2, h3⟩ := hx
        refine ⟨(hcs _ h1).1, fun a ha => ?_⟩
        have s2 : Step m.n c H1 H' := ⟨run.1, run.2, le⟩
        have nO : ¬ c.O a := fun z => by
          obtain ⟨o, e, _⟩ := (cf1.step s2).dom a z
          rw [ha] at e
          cases e
        rw [h2] at xa
        have xa : dd = none := xa
        subst xa
        exact k _ (.ref a) _ h3 (show Step m.n c H _ from ((s1.trans s2).trans (Step.new (n := 0) run.1 ha)).mono (by omega)) (At.err (us := []) (hcs _ h1).2 upd_same nO (.inl ⟨rfl, rfl⟩) .nil)
      top := by
        have h1 := s1.le
        have h2 := cf.top
        have bd : trn c.sd H + m.n ≤ B := bd
        omega }
  exact hm ⟨fun cls dd H' => PySem.W.exmOne K cls (.ref CS) = some true ∧ ∀ a, H' a = none → Q (.ref a) (upd H' a (ExT cls dd a)), E.T⟩ rfl _ c c ad H1 s H1 _ _ _ cfL (Nat.le_refl _) hr fun d v H' hR s2 a2 => ⟨.non, rfl, k .non .non H' hR (show Step m.n c H H' from (s1.trans s2).mono (by omega)) .non⟩
end DS
/-! DS22: the call of the catching def with a lambda. -/
namespace DS
open PySem PySem.Spec PyProof.Rows L2

/-- where a lambda's body runs -/
abbrev G.lam (g : G) (k : Nat) (scope : Scope) : G := { g with sc := scope, fn := fun _ => false, rs := true, k := k, cq := none, gd := false }
abbrev lamY (X : Cx) (A : Around) (outer : List PySem.Env) (s : Shared) (H : Hp) (E : EX) (scope : Scope) (f c' : Addr) : Dyn :=
  { A := A.deeper (LamX.lamEnv X scope s.heap.objs.size f c'), s0 := s, H0 := H, env := LamX.lamEnv X scope s.heap.objs.size f c', outer := outer, stack := LamX.lamEnv X scope s.heap.objs.size f c' :: outer, ex := [], pn := [], xe := (LamX.lamCx X A outer s H E.e scope f c').xe, E := E }
theorem lam_ok {g : G} {y : Dyn} (ok : g.Ok y) {k : Nat} {A : Around} {outer : List PySem.Env} {s : Shared} {H : Hp} {E : EX} {scope : Scope} {f c' : Addr} (hE : E.T = g.T) (hr : Room k (A.deeper (LamX.lamEnv (g.cx y) scope s.heap.objs.size f c'))) :
    (g.lam k scope).Ok (lamY (g.cx y) A outer s H E scope f c') := by
  have tk : L2.Takes (LamX.lamCx (g.cx y) A outer s H E.e scope f c') (fun cls d _ H => E.e cls d H) := takes_of rfl rfl rfl rfl
  exact ⟨rfl, hr, ok.nd, passes_of (X := LamX.lamCx (g.cx y) A outer s H E.e scope f c') (K := fun e s'' => L2.CX g.P g.w outer H s E.e e s'') (E₁ := fun e' s'' => L2.CX g.P g.w outer H s E.e e' s'') rfl, fun _ => ⟨passes_call tk (fun _ _ _ _ h => h), tk⟩, hE, fun _ h => (by cases h), fun z => Bool.noConfusion z⟩
theorem de_caught {g : G} {x a v e en q : Str} {st : Stmt} {CS c P : Addr} {params : Arguments} {body : Expr} {scope : Scope} {cs : List Str} {m : WE} {k j : Nat} {lpos p pos p1 p2 p3 p4 p5 p6 p7 p8 p9 p10 p11 p12 p13 p14 : Pos} (F : Have g.K g.mg x st)
    (hst : defBody st = [.Assign [.Name v p1] (.Constant .none j p2) p3, .Try [.Expr (.Call (.Name a p4) [] [] p5) p6] [.ExceptHandler (some (.Name en p7)) (some e) [.Assign [.Name v p8] (.Name e p9) p10] p11] [] [] p12, .Return (some (.Name v p13)) p14])
    (S : FnScope [a, v, e] [a] (defScope st)) (hbd : BindsN st x [a]) (hge : (defScope st).names.lookup en = some .globalImplicit) (hme : g.mg en = some (.ref CS)) (hde : (en == ("__debug__" : Str)) = false)
    (hN : [a, v, e].Nodup) (hv : (defScope st).names.lookup v = some .local) (he : (defScope st).names.lookup e = some .local) (ha : Vis (defScope st) a) (dv : (v == ("__debug__" : Str)) = false) (cv : (v == ("__classdict__" : Str)) = false) (dd : (e == ("__debug__" : Str)) = false) (cd : (e == ("__classdict__" : Str)) = false)
    (da : (a == ("__debug__" : Str)) = false) (ca : (a == ("__classdict__" : Str)) = false)
    (hcs : ∀ x ∈ cs, PySem.W.exmOne g.K (.ref (clK g.K x)) (.ref CS) = some true ∧ ErrK g.K x)
    (TB : LamX.TabB g.base g.mg c P) (hcq : g.cq = some (.ref c, q)) (hT : (P, q ++ "<lambda>") ∈ g.T) (hu : ∀ p ∈ g.T, p.1 = P → p.2 = q ++ "<lambda>")
    (hb : DE (g.lam k scope) body m) (hk : k + 2 ≤ g.k := by exact Nat.le_of_ble_eq_true rfl) (hg : g.sc.names.lookup x = some .globalImplicit := by rfl) (L : LamX.LamS g.sc scope := by exact LamX.lamS_by (by decide +kernel)) (hdef : ∀ env, defaultsOf params env = ([], []) := by intro _; rfl)
    (hbind : ∀ (q : Str) (cl : List (Str × Addr)) (pm cv ctv : Value), bindArgs (PySem.W.kla_fn "<lambda>" q params body scope cl pm cv ctv) ⟨[], []⟩ = pure [] := by intros; rfl) (hdb : (x == ("__debug__" : Str)) = false := by decide) :
    DE g (.Call (.Name x p) [.Lambda params body scope lpos] [] pos) (eCaught cs m) := by
  obtain ⟨t, w⟩ := hb
  obtain ⟨f, fd, hm, F⟩ := F.ex
  have bd := F.binds hbd
  have kp := F.kp
  obtain ⟨oc, od, kV, doc, pm, an, cdv, ct, osl, rfl, lk, hcd⟩ := F.ex
  refine ⟨fun E => LamX.tLam E.T (TTc g.K CS) fun e => t ⟨e, E.T⟩, fun y ok => ⟨?_, sem_caught (fun E' hE => ?_) hcs⟩⟩
  · obtain ⟨e1, e2⟩ := ok.cq _ hcq
    have e2 : y.env.qual = q := e2
    show PE _ _ (LamX.tLam y.E.T (TTc g.K CS) fun e => t ⟨e, y.E.T⟩)
    rw [ok.tb]
    refine LamX.pe_lamcall (X := g.cx y) (T := g.T) (P := P) (c := c) (k := k) (a := a) (Ng := [a, v, e]) (ok.gl hg) hm kp lk hcd bd S rfl ha ?_ TB e1 (by show (P, y.env.qual ++ "<lambda>") ∈ g.T; rw [e2]; exact hT) (by show ∀ p ∈ g.T, p.1 = P → p.2 = y.env.qual ++ "<lambda>"; rw [e2]; exact hu) (ok.room.mono hk) (by show LamX.LamS y.env.scope scope; rw [ok.sc]; exact L) (hdef _) hbind (fun A outer s H E f c' hr => ?_) hdb da ca
    · rw [hst]
      exact caught_gives hge hme hde hN hv he dv cv dd cd
    · exact (w _ (lam_ok ok (E := ⟨E, g.T⟩) rfl hr)).1
  · exact (w _ (lam_ok ok (A := y.A) (outer := y.stack) (s := y.s0) (H := y.H0) (f := 0) (c' := 0) (E := E') (hE.trans ok.tb) ((ok.room.mono (by omega : k + 1 ≤ g.k)).deeper _))).2
end DS
/-! DS23: isinstance. -/
namespace DS
open PySem PySem.Spec PyProof.Rows L2

def isTy (errs : ETab) (n : String) (d : D) : Option D := match d with
  | .err x ks _ => if ks = [] then (if n ∈ plainTy then some (.bl false) else (errs.lookup x).map fun an => .bl (decide (Str.ofString n ∈ an))) else none
  | d => (tyN d).bind fun t => (kitB t n).map .bl
def isOw (errs : ETab) (C : Str) (d : D) : Option D := match d with
  | .err x ks _ => if ks = [] then (errs.lookup x).map fun an => .bl (decide (C ∈ an)) else none
  | d => (tyN d).map fun _ => .bl false
/-- an own class, asked for -/
structure ClsF (K : PySem.W.Frag) (mg : Str → Option Value) (errs : ETab) (C : Str) : Prop where
  gl : mg C = some (.ref (clK K C))
  pl : ∀ t ∈ ["NoneType", "bool", "int", "str", "tuple", "list", "dict"], PySem.W.kitOne K (.type t) (.ref (clK K C)) = some false
  er : ∀ p ∈ errs, PySem.W.kitOne K (.ref (clK K p.1)) (.ref (clK K C)) = some (decide (C ∈ p.2))
/-- a built-in class of errors, asked for -/
structure BltF (K : PySem.W.Frag) (errs : ETab) (n : String) : Prop where
  er : ∀ p ∈ errs, PySem.W.kitOne K (.ref (clK K p.1)) (.type n) = some (decide (Str.ofString n ∈ p.2))
theorem lookup_mem {α β : Type} [BEq α] [LawfulBEq α] {k : α} {v : β} : ∀ {l : List (α × β)}, l.lookup k = some v → (k, v) ∈ l
  | (a, b) :: l, h => by
    rw [List.lookup_cons] at h
    split at h
    · rename_i e
      cases h
      rw [eq_of_beq e]
      exact List.mem_cons_self
    · exact List.mem_cons_of_mem _ (lookup_mem h)
def rIsA (K : PySem.W.Frag) : List V → Hp → VK → Prop := fun xs H Q => rIsi K xs H Q ∨ rIsT K xs H Q
theorem call_isA {X : Cx} : CallR X (.builtin "isinstance") (rIsA X.K) := by
  intro pins s σ H xs us Q I r h
  rcases h with h | h
  · exact call_isi pins s σ H xs us Q I r h
  · exact call_isT pins s σ H xs us Q I r h
theorem tyN_mem {d : D} {t : String} (h : tyN d = some t) : t ∈ ["NoneType", "bool", "int", "str", "tuple", "list", "dict"] := by
  cases d <;> cases h <;> decide
theorem tyN_no {d : D} (h : tyN d = none) : ∃ x ks vs, d = .err x ks vs := by
  cases d <;> first | exact ⟨_, _, _, rfl⟩ | cases h
theorem At.err_inv {K : PySem.W.Frag} {c : Co} {H : Hp} {v : V} {x : Str} {ks : List Str} {vs : List D} (a : At K c H v (.err x ks vs)) (e : ks = []) : ∃ a0, v = .ref a0 ∧ ErrK K x ∧ H a0 = some (ExT (.ref (clK K x)) none a0) := by
  cases a with
  | err ek h n q r =>
    rcases q with ⟨_, rfl⟩ | ⟨nk, _⟩
    · exact ⟨_, rfl, ek, h⟩
    · exact absurd e nk
theorem s_isTy {K : PySem.W.Frag} {errs : ETab} {n : String} (hb : n ∈ plainTy ∨ BltF K errs n) {c : Co} {H : Hp} {v : V} {d z : D} {Q : VK} (ho : Ho c H) (a : At K c H v d) (e : isTy errs n d = some z) (k : ∀ v' H', Step 0 c H H' → At K c H' v' z → Q v' H') : rIsA K [v, .ty n] H Q := by
  have plain : ∀ {t : String}, tyN d = some t → (kitB t n).map D.bl = some z → rIsA K [v, .ty n] H Q := by
    intro t ht e
    cases hk : kitB t n with
    | none => rw [hk] at e; cases e
    | some b =>
      rw [hk] at e
      cases e
      exact .inl ⟨_, .ty n, .type t, .type n, b, rfl, .ty n, a.tyx ho ht, kit_ty hk, k _ H (Step.refl ho.inv) (.bl b)⟩
  cases ht : tyN d with
  | some t =>
    refine plain ht ?_
    have : isTy errs n d = (tyN d).bind fun t => (kitB t n).map .bl := by cases d <;> first | rfl | cases ht
    rw [this, ht] at e
    exact e
  | none =>
    obtain ⟨x, ks, vs, rfl⟩ := tyN_no ht
    have e : (if ks = [] then (if n ∈ plainTy then some (.bl false) else (errs.lookup x).map fun an => .bl (decide (Str.ofString n ∈ an))) else none) = some z := e
    split at e
    · rename_i hks
      obtain ⟨a0, rfl, ek, h⟩ := a.err_inv hks
      split at e
      · rename_i hn
        cases e
        exact .inr ⟨a0, clK K x, .ty n, .type n, false, rfl, h, ek.ec, fun _ z => z, ek.pl n hn, k _ H (Step.refl ho.inv) (.bl _)⟩
      · rename_i hn
        cases q : errs.lookup x with
        | none => rw [q] at e; cases e
        | some an =>
          rw [q] at e
          cases e
          exact .inr ⟨a0, clK K x, .ty n, .type n, _, rfl, h, ek.ec, fun _ z => z, (hb.resolve_left hn).er _ (lookup_mem q), k _ H (Step.refl ho.inv) (.bl _)⟩
    · cases e
theorem s_isOw {K : PySem.W.Frag} {mg : Str → Option Value} {errs : ETab} {C : Str} (F : ClsF K mg errs C) {c : Co} {H : Hp} {v : V} {d z : D} {Q : VK} (ho : Ho c H) (a : At K c H v d) (e : isOw errs C d = some z) (k : ∀ v' H', Step 0 c H H' → At K c H' v' z → Q v' H') : rIsA K [v, .ref (clK K C)] H Q := by
  cases ht : tyN d with
  | some t =>
    have : isOw errs C d = (tyN d).map fun _ => .bl false := by cases d <;> first | rfl | cases ht
    rw [this, ht] at e
    cases e
    exact .inl ⟨_, .ref (clK K C), .type t, .ref (clK K C), false, rfl, .own (clK K C), a.tyx ho ht, F.pl t (tyN_mem ht), k _ H (Step.refl ho.inv) (.bl _)⟩
  | none =>
    obtain ⟨x, ks, vs, rfl⟩ := tyN_no ht
    have e : (if ks = [] then (errs.lookup x).map fun an => .bl (decide (C ∈ an)) else none) = some z := e
    split at e
    · rename_i hks
      obtain ⟨a0, rfl, ek, h⟩ := a.err_inv hks
      cases q : errs.lookup x with
      | none => rw [q] at e; cases e
      | some an =>
        rw [q] at e
        cases e
        exact .inr ⟨a0, clK K x, .ref (clK K C), .ref (clK K C), _, rfl, h, ek.ec, fun _ z => z, F.er _ (lookup_mem q), k _ H (Step.refl ho.inv) (.bl _)⟩
    · cases e
theorem sem_is {K : PySem.W.Frag} {E : EX} {f : D → Option D} {u : V} {m : WE} {t : TE} (hf : ∀ {c : Co} {H : Hp} {v : V} {d z : D} {Q : VK}, Ho c H → At K c H v d → f d = some z → (∀ v' H', Step 0 c H H' → At K c H' v' z → Q v' H') → rIsA K [v, u] H Q) (h : SemE K E m t) : SemE K E (eUn f m) (tCB (rIsA K) (tCons t (tCons (tC u) tNil))) := by
  intro B c0 c ad H0 s H rr R Q cf bd hm k
  refine h B c0 c ad H0 s H rr _ _ cf bd hm fun d v H1 hx s1 a1 => ?_
  obtain ⟨z, e, hR⟩ := hx
  exact hf (cf.step s1).ho a1 e fun v' H' s2 a2 => k z v' H' hR (s1.trans s2) a2
section
variable {g : G} {e : Expr} {m : WE} {p p2 pos : Pos}
theorem de_isTy {x : Str} {n : String} (errs : ETab) (hb : n ∈ plainTy ∨ BltF g.K errs n) (hm : g.mg "isinstance" = none) (hx : g.mg x = none) (h : DE g e m) (hv : bootBuiltins x = some (.type n) := by decide +kernel) (hg : g.sc.names.lookup ("isinstance" : Str) = some .globalImplicit := by rfl) (hgx : g.sc.names.lookup x = some .globalImplicit := by rfl)
    (hn : x ≠ "__name__" := by decide) (hd : (x == ("__debug__" : Str)) = false := by decide) (he : ∀ env, starEach [e, .Name x p2] env = (false, eval e env) :: starEach [.Name x p2] env := by intro _; rfl) (hs : ∀ env, starEach [.Name x p2] env = (false, eval (.Name x p2) env) :: starEach [] env := by intro _; rfl)
    (hpl : ∀ env, (backTo pos (starEach [.Name x p2] env)).any (·.1) = false := by intro _; rfl) : DE g (.Call (.Name "isinstance" p) [e, .Name x p2] [] pos) (eUn (isTy errs n) m) := by
  obtain ⟨t, q⟩ := h
  exact ⟨fun E => tCB (rIsA g.K) (tCons (t E) (tCons (tC (.ty n)) tNil)), fun y ok => ⟨pe_callB call_isA (ok.gl hg) hm (by decide +kernel) (pa_cons (q y ok).1 (pa_cons (pe_bltn (X := g.cx y) (v := .ty n) (u := .type n) (ok.gl hgx) hx hv rfl hn hd) pa_nil (hs _)) (he _)) (by decide) (by decide) (he _) (hpl _), sem_is (s_isTy hb) (q y ok).2⟩⟩
theorem de_isOw {C : Str} (errs : ETab) (F : ClsF g.K g.mg errs C) (hm : g.mg "isinstance" = none) (h : DE g e m) (hg : g.sc.names.lookup ("isinstance" : Str) = some .globalImplicit := by rfl) (hgx : g.sc.names.lookup C = some .globalImplicit := by rfl)
    (hd : (C == ("__debug__" : Str)) = false := by decide) (he : ∀ env, starEach [e, .Name C p2] env = (false, eval e env) :: starEach [.Name C p2] env := by intro _; rfl) (hs : ∀ env, starEach [.Name C p2] env = (false, eval (.Name C p2) env) :: starEach [] env := by intro _; rfl)
    (hpl : ∀ env, (backTo pos (starEach [.Name C p2] env)).any (·.1) = false := by intro _; rfl) : DE g (.Call (.Name "isinstance" p) [e, .Name C p2] [] pos) (eUn (isOw errs C) m) := by
  obtain ⟨t, q⟩ := h
  exact ⟨fun E => tCB (rIsA g.K) (tCons (t E) (tCons (tC (.ref (clK g.K C))) tNil)), fun y ok => ⟨pe_callB call_isA (ok.gl hg) hm (by decide +kernel) (pa_cons (q y ok).1 (pa_cons (pe_glob (X := g.cx y) (v := .ref (clK g.K C)) (u := .ref (clK g.K C)) (ok.gl hgx) F.gl rfl hd) pa_nil (hs _)) (he _)) (by decide) (by decide) (he _) (hpl _), sem_is (s_isOw F) (q y ok).2⟩⟩
end
/-- the answers, to be read -/
@[simp] theorem isTy_tup {errs : ETab} (d : D) : isTy errs "tuple" d = (match d with | .err _ ks _ => if ks = [] then some (.bl false) else none | .tup _ => some (.bl true) | _ => some (.bl false)) := by
  cases d <;> rfl
end DS
/-! DS24: defs that hold lambdas. -/
namespace DS
open PySem PySem.Spec PyProof.Rows L2

/-- the code object of the def x -/
def codeK (K : PySem.W.Frag) (x : Str) : Value := match PySem.W.nsIn K mainGlobals x with
  | some (some (.ref f)) => match K.lookup f with
    | some ⟨_, _, .func fd, _⟩ => fd.code
    | _ => .none
  | _ => .none
/-- where the body of a def that holds lambdas is read -/
abbrev gOfL (P : Program) (w : World) (K : PySem.W.Frag) (mg : Str → Option Value) (base : Heap) (k : Nat) (N : List Str) (x : Str) (st : Stmt) (rs : Bool) (T : List (Addr × Str)) : G := { gOf P w K mg base k N st rs T with cq := some (codeK K x, x ++ ".<locals>.") }
structure HaveC (K : PySem.W.Frag) (mg : Str → Option Value) (x : Str) (st : Stmt) : Prop where
  ex : ∃ f fd, PySem.W.nsIn K mainGlobals x = some (some (.ref f)) ∧ mg x = some (.ref f) ∧ L2.Fun K x x st f fd
theorem HaveC.mk' {K : PySem.W.Frag} {h : Heap} {mg : Str → Option Value} {x : Str} {st : Stmt} {f : Addr} {oc : Value} {od an : Option Addr} {osl : Array (Option Value)} {kV doc pm cdv ct : Value} (X : K.In h) (G : h.Ns mainGlobals mg) (a : PySem.W.nsIn K mainGlobals x = some (some (.ref f)))
    (l : K.lookup f = some ⟨oc, od, .func (PySem.W.fnOf x x (defArgs st) (defBody st) (defScope st) .none kV doc pm an cdv ct), osl⟩) (c : PySem.W.codeIn K cdv x = true) (k : PySem.W.keepIn K (.ref f) = true) : HaveC K mg x st :=
  ⟨⟨f, _, a, PySem.W.mg_of X G a, fun_mk l c k⟩⟩
section
variable {P : Program} {w : World} {K : PySem.W.Frag} {mg : Str → Option Value} {base : Heap}
theorem fnW_ofL {x : Str} {st : Stmt} {N ps : List Str} {m : WS} {k : Nat} {TB : List (Addr × Str)} (F : HaveC K mg x st) (S : FnScope N ps (defScope st)) (hp : ps.length ≤ N.length) (hbd : BindsN st x ps) (hb : DSs (gOfL P w K mg base k N x st false TB) (defBody st) m) : FnW P w K mg base (k + 1) x ps.length (fnF N m) TB := by
  obtain ⟨f, fd, hn, hm, F⟩ := F.ex
  have bd := F.binds hbd
  have kp := F.kp
  obtain ⟨oc, od, kV, doc, pm, an, cdv, ct, osl, rfl, lk, hcd⟩ := F.ex
  have hc : codeK K x = cdv := by unfold codeK; rw [hn]; simp only [lk]
  obtain ⟨t, p⟩ := hb
  refine ⟨⟨f, _, ps, rfl, fn_of lk hcd S (fun vs H Q E ⟨c, ds, R, _, a, l, _⟩ => a.length.trans l) (fun A outer s H vs Q E hr h => ?_), hm, kp, bd⟩⟩
  obtain ⟨c, ds, R, ho, a, l, bd, hF, k⟩ := h
  have ok : (gOfL P w K mg base _ N x st false TB).Ok { A := A.deeper (envOfC x (defScope st) s.heap.objs.size f cdv), s0 := s, H0 := H, env := envOfC x (defScope st) s.heap.objs.size f cdv, outer := outer, stack := envOfC x (defScope st) s.heap.objs.size f cdv :: outer, ex := [], pn := [], xe := fun _ _ => False, E := ⟨fun _ _ _ => True, TB⟩ } :=
    ⟨rfl, hr, S.nd, PassesOwn.never, fun z => Bool.noConfusion z, rfl, fun z h => (by cases h; exact ⟨hc.symm, rfl⟩), fun z => Bool.noConfusion z⟩
  have hq : PSs (cxOf L2.CX0 P w K mg base N x (defScope st) f cdv A outer s H E).nox (defBody st) (t ⟨fun _ _ _ => True, TB⟩) := (p _ ok).1
  refine ⟨t ⟨fun _ _ _ => True, TB⟩, hq.nox, ?_⟩
  refine (p _ ok).2 (trn c.sd H + m.n) c c (fun _ => 0) H (start N vs) H ⟨startE N ds, fun _ => False⟩ _ _ (start_cf ho bd.2 a (by omega) bd.1 fun x z => z.elim) (Nat.le_refl _) hF ?_
  exact ⟨fun c' ad' s' H' r' _ le hR cf => k .non .non H' hR ⟨cf.st.1, cf.st.2, by rw [cf.sd] at le; exact le⟩ .non, fun _ _ _ _ _ _ _ z => z.elim, fun _ _ _ _ _ _ _ z => z.elim, fun d v H' hR s1 le a1 => k d v H' hR ⟨s1.1, s1.2, le⟩ a1⟩
theorem law_okL {st : Stmt} {N : List Str} {m : WS} {k : Nat} {rest : List Stmt} {T : List (Addr × Str)} {p1 p2 p3 p4 p5 : Pos} (F : HaveC K mg "law" st) (S : FnScope N ["script"] (defScope st)) (B : FnH P w K mg base 1 "_law_begun" (spBegun K)) (hk : 1 ≤ k)
    (hst : defBody st = .Assign [.Name "state" p1] (.Call (.Name "_law_begun" p2) [.Name "script" p3] [] p4) p5 :: rest) (hb : DSs (gOfL P w K mg base k N "law" st false T) rest m) (hN2 : 2 ≤ N.length)
    (h0 : N[0]? = some ("script" : Str)) (h1 : N[1]? = some ("state" : Str)) (hg : (defScope st).names.lookup ("_law_begun" : Str) = some .globalImplicit) (hs : (defScope st).names.lookup ("state" : Str) = some .local ∨ (defScope st).names.lookup ("state" : Str) = some .cell)
    (ht : LawTrue N m) : ∃ f fd, mg "law" = some (.ref f) ∧ FnOk P w K mg base L2.CX0 (k + 1) f fd ["script"] (spLaw T K) := by
  obtain ⟨f, fd, hn, hm, F⟩ := F.ex
  obtain ⟨oc, od, kV, doc, pm, an, cdv, ct, osl, rfl, lk, hcd⟩ := F.ex
  have hc : codeK K "law" = cdv := by unfold codeK; rw [hn]; simp only [lk]
  obtain ⟨t, p⟩ := hb
  obtain ⟨fB, fdB, psB, FB, hmB, hkB, hbB⟩ := B.ex
  refine ⟨f, _, hm, fn_of lk hcd S (fun vs H Q E ⟨a, ns, e, _⟩ => by rw [e]; rfl) (fun A outer s H vs Q E hr h => ?_)⟩
  obtain ⟨a, ns, rfl, hS, hl, hT, q⟩ := h
  have ok : (gOfL P w K mg base k N "law" st false T).Ok { A := A.deeper (envOfC "law" (defScope st) s.heap.objs.size f cdv), s0 := s, H0 := H, env := envOfC "law" (defScope st) s.heap.objs.size f cdv, outer := outer, stack := envOfC "law" (defScope st) s.heap.objs.size f cdv :: outer, ex := [], pn := [], xe := fun _ _ => False, E := ⟨fun _ _ _ => True, T⟩ } :=
    ⟨rfl, hr, S.nd, PassesOwn.never, fun z => Bool.noConfusion z, rfl, fun z h => (by cases h; exact ⟨hc.symm, rfl⟩), fun z => Bool.noConfusion z⟩
  have hps : ∀ t0, PSs (cxOf L2.CX0 P w K mg base N "law" (defScope st) f cdv A outer s H E).nox (defBody st) t0 → PSs (cxOf L2.CX0 P w K mg base N "law" (defScope st) f cdv A outer s H E) (defBody st) t0 := fun t0 h => h.nox
  refine ⟨tSeq (tAsg (tCall (spBegun K) [] L2.E0 (tCons (tVar 0) tNil)) (gName 1)) (t ⟨fun _ _ _ => True, T⟩), ?_, ?_⟩
  · refine hps _ ?_
    rw [hst]
    refine pss_cons (ps_set (i := 1) ok.nd h1 (ok.loc hs) (pe_call FB (hr.mono hk) (ok.gl hg) hmB hkB hbB .nil L2.pass0 (pa_cons (pe_var h0 (S.par "script" (by simp) |>.elim Or.inl fun z => Or.inr (Or.inl z))) pa_nil)) (by rfl) (.inl rfl)) (p _ ok).1
  · have hz : 0 < N.length := by omega
    refine ⟨.ref a, rfl, a, ns, T, rfl, hS, hl, hT, fun c great cells H' hcT hs' _ _ fr => ?_⟩
    have cf := law_cf (K := K) (a := a) (T := T) hs' hcT hN2 ht.1
    refine (p _ ok).2 _ _ _ (fun _ => 0) H' _ H' (lawE N) _ _ cf ?_ ht.2 ?_
    · rw [show trn _ H' = (0 : Int).toNat from hs'.trn]
      show 0 + m.n ≤ m.n
      rw [Nat.zero_add]
      exact Nat.le_refl _
    · exact ⟨fun _ _ _ _ _ _ _ z => z.elim, fun _ _ _ _ _ _ _ z => z.elim, fun _ _ _ _ _ _ _ z => z.elim, fun d v H2 hR _ _ a1 => by
        have hR : d = .bl true := hR
        subst hR
        cases a1
        exact q H2⟩
end
end DS
namespace DS
open PySem PySem.Spec PyProof.Rows L2
theorem OwnE.mk' {K : PySem.W.Frag} {h : Heap} {mg : Str → Option Value} {x : Str} {C : Addr} {bm : List Value} {Bn newId initId : String} (F : ExcBaseFacts Bn newId initId bm) (X : K.In h) (G : h.Ns mainGlobals mg) (a : PySem.W.nsIn K mainGlobals x = some (some (.ref C))) (k : PySem.W.keepIn K (.ref C) = true)
    (e : PySem.W.excIn K C bm newId = true) (s : PySem.W.subIn K (.ref C) (.type "BaseException") = some true) (t : PySem.W.typeIn K (.ref C) = some (.type "type")) : OwnE K mg x :=
  ⟨⟨C, bm, Bn, newId, initId, a, PySem.W.mg_of X G a, k, F, e, s, t⟩⟩
end DS
/-! DS25: functions in the place of wishes, where nothing is drawn. -/
namespace DS
open PySem PySem.Spec PyProof.Rows L2

/-- what comes of a piece of text: it gets stuck, an error, a value -/
inductive Res (α : Type) where
  | no | er (x : Ex) | ok (a : α)
namespace Res
variable {α β : Type}
def bind (q : Res α) (f : α → Res β) : Res β := match q with
  | .no => .no
  | .er x => .er x
  | .ok a => f a
def wp (q : Res α) (R : α → Prop) (E : Ex → Prop) : Prop := match q with
  | .no => False
  | .er x => E x
  | .ok a => R a
def of : Option α → Res α
  | none => .no
  | some a => .ok a
/-- where no error may leave -/
def calm : Res α → Res α
  | .er _ => .no
  | q => q
@[simp] theorem ok_bind (a : α) (f : α → Res β) : (ok a).bind f = f a := Eq.trans rfl rfl
@[simp] theorem er_bind (x : Ex) (f : α → Res β) : (er x).bind f = .er x := Eq.trans rfl rfl
@[simp] theorem no_bind (f : α → Res β) : (no : Res α).bind f = .no := Eq.trans rfl rfl
@[simp] theorem ite_bind {c : Prop} [Decidable c] (a b : Res α) (f : α → Res β) : (if c then a else b).bind f = if c then a.bind f else b.bind f := by split <;> rfl
@[simp] theorem bind_bind {γ : Type} (q : Res α) (f : α → Res β) (g : β → Res γ) : (q.bind f).bind g = q.bind fun a => (f a).bind g := by cases q <;> rfl
@[simp] theorem wp_ok (a : α) (R : α → Prop) (E : Ex → Prop) : (ok a).wp R E = R a := Eq.trans rfl rfl
@[simp] theorem wp_er (x : Ex) (R : α → Prop) (E : Ex → Prop) : (er x : Res α).wp R E = E x := Eq.trans rfl rfl
@[simp] theorem wp_no (R : α → Prop) (E : Ex → Prop) : (no : Res α).wp R E = False := Eq.trans rfl rfl
@[simp] theorem of_some (a : α) : of (some a) = .ok a := Eq.trans rfl rfl
@[simp] theorem of_none : of (none : Option α) = .no := Eq.trans rfl rfl
@[simp] theorem calm_ok (a : α) : (ok a).calm = .ok a := Eq.trans rfl rfl
@[simp] theorem calm_er (x : Ex) : (er x : Res α).calm = .no := Eq.trans rfl rfl
@[simp] theorem calm_no : (no : Res α).calm = .no := Eq.trans rfl rfl
@[simp] theorem calm_ite {c : Prop} [Decidable c] (a b : Res α) : (if c then a else b).calm = if c then a.calm else b.calm := by split <;> rfl
theorem wpb {q : Res α} {f : α → Res β} {R : β → Prop} {S : α → Prop} {E : Ex → Prop} (h : (q.bind f).wp R E) (k : ∀ a, (f a).wp R E → S a) : q.wp S E := by
  cases q with
  | no => exact h
  | er x => exact h
  | ok a => exact k a h
theorem mono {q : Res α} {R S : α → Prop} {E E' : Ex → Prop} (h : q.wp R E) (k : ∀ a, R a → S a) (k2 : ∀ x, E x → E' x) : q.wp S E' := by
  cases q with
  | no => exact h
  | er x => exact k2 x h
  | ok a => exact k a h
theorem ofw {o : Option α} {R : α → Prop} {E : Ex → Prop} (h : (of o).wp R E) : ∃ z, o = some z ∧ R z := by
  cases o with
  | none => exact h.elim
  | some a => exact ⟨a, rfl, h⟩
theorem calmw {q : Res α} {R : α → Prop} {E E' : Ex → Prop} (h : q.calm.wp R E) : q.wp R E' := by
  cases q with
  | no => exact h
  | er x => exact h.elim
  | ok a => exact h
end Res
open Res
theorem le_sz {n : Nat} (h : n ≤ 65536) : n ≤ sizeLine := Nat.le_trans h (by rw [sizeLine_eq]; decide)
theorem lt_sz {n : Nat} (h : n < 65536) : n < sizeLine := Nat.lt_of_lt_of_le h (by rw [sizeLine_eq]; decide)
/-- no more than the model's line -/
def fit {α : Type} (n : Nat) (q : Res α) : Res α := if n ≤ sizeLine then q else .no
@[simp] theorem fit_bind {α β : Type} (n : Nat) (q : Res α) (f : α → Res β) : (fit n q).bind f = fit n (q.bind f) := by unfold fit; split <;> rfl
@[simp] theorem fit_calm {α : Type} (n : Nat) (q : Res α) : (fit n q).calm = fit n q.calm := by unfold fit; split <;> rfl
@[simp] theorem fit_0 {α : Type} (q : Res α) : fit 0 q = q := if_pos (Nat.zero_le _)
theorem fit_of {α : Type} {n : Nat} (h : n ≤ 65536) (q : Res α) : fit n q = q := if_pos (le_sz h)
theorem fit_sz {α : Type} {n : Nat} (h : n ≤ sizeLine) (q : Res α) : fit n q = q := if_pos h
@[simp] theorem fit_1 {α : Type} (q : Res α) : fit 1 q = q := fit_of (by decide) q
@[simp] theorem fit_2 {α : Type} (q : Res α) : fit 2 q = q := fit_of (by decide) q
@[simp] theorem fit_3 {α : Type} (q : Res α) : fit 3 q = q := fit_of (by decide) q
@[simp] theorem fit_4 {α : Type} (q : Res α) : fit 4 q = q := fit_of (by decide) q
@[simp] theorem fit_5 {α : Type} (q : Res α) : fit 5 q = q := fit_of (by decide) q
@[simp] theorem fit_6 {α : Type} (q : Res α) : fit 6 q = q := fit_of (by decide) q
@[simp] theorem fit_7 {α : Type} (q : Res α) : fit 7 q = q := fit_of (by decide) q
@[simp] theorem fit_8 {α : Type} (q : Res α) : fit 8 q = q := fit_of (by decide) q
theorem fitw {α : Type} {n : Nat} {q : Res α} {R : α → Prop} {E : Ex → Prop} (h : (fit n q).wp R E) : n ≤ sizeLine ∧ q.wp R E := by
  unfold fit at h
  split at h
  · exact ⟨by assumption, h⟩
  · exact h.elim

/-- how a statement ends -/
inductive Out where
  | nx (s : List Sl) | rt (d : D) | bk (s : List Sl) | ct (s : List Sl)
def Out.to (W : WEnds) (ew : Ex → Prop) : Out → Prop
  | .nx s => W.nx ⟨s, ew⟩
  | .rt d => W.rt d
  | .bk s => W.bk ⟨s, ew⟩
  | .ct s => W.ct ⟨s, ew⟩
@[simp] theorem to_nx {W ew s} : (Out.nx s).to W ew = W.nx ⟨s, ew⟩ := Eq.trans rfl rfl
@[simp] theorem to_rt {W ew d} : (Out.rt d).to W ew = W.rt d := Eq.trans rfl rfl
@[simp] theorem to_bk {W ew s} : (Out.bk s).to W ew = W.bk ⟨s, ew⟩ := Eq.trans rfl rfl
@[simp] theorem to_ct {W ew s} : (Out.ct s).to W ew = W.ct ⟨s, ew⟩ := Eq.trans rfl rfl

structure XE where
  m : WE
  f : List Sl → Res D
  z : m.n = 0
  h : ∀ (r : Env) (R : D → Prop), (f r.sl).wp R r.ew → m.f r R
structure XT where
  m : WT
  f : List Sl → Res Bool
  z : m.n = 0
  h : ∀ (r : Env) (R : Bool → Prop), (f r.sl).wp R r.ew → m.f r R
structure XA where
  m : WA
  f : List Sl → Res (List D)
  z : m.n = 0
  h : ∀ (r : Env) (R : List D → Prop), (f r.sl).wp R r.ew → m.f r R
structure XO where
  m : WO
  f : List Sl → Res (Option Int)
  z : m.n = 0
  h : ∀ (r : Env) (R : Option Int → Prop), (f r.sl).wp R r.ew → m.f r R
structure XI where
  m : WI
  f : List Sl → Res (List D)
  z : m.n = 0
  h : ∀ (r : Env) (R : List D → Prop), (f r.sl).wp R r.ew → m.f r R
structure XF where
  m : WF
  f : List Sl → Res Sl
  z : m.n = 0
  h : ∀ (r : Env) (R : Sl → Prop), (f r.sl).wp R r.ew → m.f r R
structure XG where
  m : WG
  f : D → List Sl → Res (List Sl)
  h : ∀ (d : D) (r : Env) (R : Env → Prop), (f d r.sl).wp (fun s => R ⟨s, r.ew⟩) (fun _ => False) → m d r R
structure XS where
  m : WS
  f : List Sl → Res Out
  z : m.n = 0
  h : ∀ (W : WEnds) (r : Env), (f r.sl).wp (Out.to W r.ew) r.ew → m.f W r
/-- a def that draws nothing -/
structure XFn where
  F : List D → Res D
def XFn.S (x : XFn) : WFn := ⟨fun ds R => (x.F ds).wp R fun _ => False, 0⟩
def XFn.Sx (x : XFn) : WFx := ⟨fun ds R ew => (x.F ds).wp R ew, 0⟩
def XFn.none : XFn := ⟨fun _ => .no⟩
def fin : Out → Res D
  | .nx _ => .ok .non
  | .rt d => .ok d
  | _ => .no
@[simp] theorem fin_nx {s} : fin (.nx s) = .ok .non := Eq.trans rfl rfl
@[simp] theorem fin_rt {d} : fin (.rt d) = .ok d := Eq.trans rfl rfl
def XS.run (X : XS) (N : List Str) (ds : List D) : Res D := (X.f (startE N ds)).bind fin
theorem XS.fnx {X : XS} {N : List Str} {ds : List D} {R : D → Prop} {ew : Ex → Prop} (h : (X.run N ds).wp R ew) : (fnFx N X.m).f ds R ew := by
  refine X.h _ ⟨startE N ds, ew⟩ (wpb h fun o ho => ?_)
  cases o with
  | nx s => exact ho
  | rt d => exact ho
  | bk s => exact ho.elim
  | ct s => exact ho.elim
theorem XS.fn {X : XS} {N : List Str} {ds : List D} {R : D → Prop} (h : (X.run N ds).wp R fun _ => False) : (fnF N X.m).f ds R := XS.fnx (ew := fun _ => False) h

/-- what stands in slot i -/
def shS (s : List Sl) (i : Nat) : Res D := match s[i]? with
  | some (.sh d) => .ok d
  | _ => .no
def olS (s : List Sl) (i : Nat) : Res (List D) := match s[i]? with
  | some (.ol ds) => .ok ds
  | _ => .no
def otS (s : List Sl) (i : Nat) : Res (List (List Key × D)) := match s[i]? with
  | some (.ot ds) => .ok ds
  | _ => .no
@[simp] theorem shS_0 {d s} : shS (.sh d :: s) 0 = .ok d := Eq.trans rfl rfl
@[simp] theorem shS_s {x s i} : shS (x :: s) (i + 1) = shS s i := Eq.trans rfl rfl
@[simp] theorem olS_0 {d s} : olS (.ol d :: s) 0 = .ok d := Eq.trans rfl rfl
@[simp] theorem olS_s {x s i} : olS (x :: s) (i + 1) = olS s i := Eq.trans rfl rfl
@[simp] theorem otS_0 {d s} : otS (.ot d :: s) 0 = .ok d := Eq.trans rfl rfl
@[simp] theorem otS_s {x s i} : otS (x :: s) (i + 1) = otS s i := Eq.trans rfl rfl
theorem shw {s : List Sl} {i : Nat} {R : D → Prop} {E : Ex → Prop} (h : (shS s i).wp R E) : ∃ d, s[i]? = some (.sh d) ∧ R d := by
  unfold shS at h
  split at h
  · exact ⟨_, by assumption, h⟩
  · exact h.elim
theorem olw {α : Type} {s : List Sl} {i : Nat} {k : List D → Res α} {R : α → Prop} {E : Ex → Prop} (h : ((olS s i).bind k).wp R E) : ∃ d, s[i]? = some (.ol d) ∧ (k d).wp R E := by
  unfold olS at h
  split at h
  · exact ⟨_, by assumption, h⟩
  · exact h.elim
theorem otw {α : Type} {s : List Sl} {i : Nat} {k : List (List Key × D) → Res α} {R : α → Prop} {E : Ex → Prop} (h : ((otS s i).bind k).wp R E) : ∃ d, s[i]? = some (.ot d) ∧ (k d).wp R E := by
  unfold otS at h
  split at h
  · exact ⟨_, by assumption, h⟩
  · exact h.elim
def asB : D → Res Bool
  | .bl b => .ok b
  | _ => .no
@[simp] theorem asB_bl {b} : asB (.bl b) = .ok b := Eq.trans rfl rfl
theorem asw {α : Type} {d : D} {k : Bool → Res α} {R : α → Prop} {E : Ex → Prop} (h : ((asB d).bind k).wp R E) : ∃ b, d = .bl b ∧ (k b).wp R E := by
  cases d with
  | bl b => exact ⟨b, rfl, h⟩
  | _ => exact h.elim
def asI : D → Res Int
  | .int b => .ok b
  | _ => .no
@[simp] theorem asI_int {b} : asI (.int b) = .ok b := Eq.trans rfl rfl
theorem aiw {α : Type} {d : D} {k : Int → Res α} {R : α → Prop} {E : Ex → Prop} (h : ((asI d).bind k).wp R E) : ∃ b, d = .int b ∧ (k b).wp R E := by
  cases d with
  | int b => exact ⟨b, rfl, h⟩
  | _ => exact h.elim
def asS : D → Res Str
  | .str b => .ok b
  | _ => .no
@[simp] theorem asS_str {b} : asS (.str b) = .ok b := Eq.trans rfl rfl
theorem asSw {α : Type} {d : D} {k : Str → Res α} {R : α → Prop} {E : Ex → Prop} (h : ((asS d).bind k).wp R E) : (∃ b, d = .str b) ∧ ∃ b, (k b).wp R E := by
  cases d with
  | str b => exact ⟨⟨b, rfl⟩, b, h⟩
  | _ => exact h.elim
theorem ofb {α β : Type} {o : Option α} {k : α → Res β} {R : β → Prop} {E : Ex → Prop} (h : ((of o).bind k).wp R E) : ∃ z, o = some z ∧ (k z).wp R E := by
  cases o with
  | none => exact h.elim
  | some a => exact ⟨a, rfl, h⟩

namespace X
theorem z2 {a b : Nat} (ha : a = 0) (hb : b = 0) : a + b = 0 := by rw [ha, hb]
theorem z3 {a b c : Nat} (ha : a = 0) (hb : b = 0) (hc : c = 0) : a + b + c = 0 := by rw [ha, hb, hc]
theorem z3' {a b c : Nat} (ha : a = 0) (hb : b = 0) (hc : c = 0) : a + (b + c) = 0 := by rw [ha, hb, hc]
def eVar (i : Nat) : XE := ⟨DS.eVar i, fun s => shS s i, rfl, fun _ _ h => shw h⟩
def eC (d : D) : XE := ⟨DS.eC d, fun _ => .ok d, rfl, fun _ _ h => h⟩
def eOp (g : D → D → Option D) (a b : XE) : XE := ⟨DS.eOp g a.m b.m, fun s => (a.f s).bind fun x => (b.f s).bind fun y => of (g x y), z2 a.z b.z, fun r _ h => a.h r _ (wpb h fun _ h => b.h r _ (wpb h fun _ h => ofw h))⟩
def eUn (g : D → Option D) (a : XE) : XE := ⟨DS.eUn g a.m, fun s => (a.f s).bind fun x => of (g x), a.z, fun r _ h => a.h r _ (wpb h fun _ h => ofw h)⟩
def tV (a : XE) : XT := ⟨DS.tV a.m, fun s => (a.f s).bind asB, a.z, fun r R h => a.h r _ (wpb h fun d h => by
  cases d with
  | bl b => exact ⟨b, rfl, h⟩
  | _ => exact h.elim)⟩
def eCh (g g' : D → D → Option D) (a b c : XE) : XE := ⟨DS.eCh g g' a.m b.m c.m, fun s => (a.f s).bind fun x => (b.f s).bind fun y => (of (g x y)).bind fun k => (asB k).bind fun k => if k = true then (c.f s).bind fun w => of (g' y w) else .ok (.bl false), z3 a.z b.z c.z,
  fun r R h => a.h r _ (wpb h fun _ h => b.h r _ (wpb h fun _ h => by
    obtain ⟨z, e, h⟩ := ofb h
    obtain ⟨k, rfl, h2⟩ := asw h
    refine ⟨k, e, ?_⟩
    cases k with
    | true => rw [if_pos rfl] at h2 ⊢; exact c.h r _ (wpb h2 fun _ h => ofw h)
    | false => rw [if_neg Bool.false_ne_true] at h2 ⊢; exact h2))⟩
def cAnd (a b : XT) : XT := ⟨DS.cAnd a.m b.m, fun s => (a.f s).bind fun x => if x = true then b.f s else .ok false, z2 a.z b.z, fun r R h => a.h r _ (wpb h fun x h => by
  cases x with
  | true => rw [if_pos rfl] at h ⊢; exact b.h r _ h
  | false => rw [if_neg Bool.false_ne_true] at h ⊢; exact h)⟩
def cOr (a b : XT) : XT := ⟨DS.cOr a.m b.m, fun s => (a.f s).bind fun x => if x = true then .ok true else b.f s, z2 a.z b.z, fun r R h => a.h r _ (wpb h fun x h => by
  cases x with
  | true => rw [if_pos rfl] at h ⊢; exact h
  | false => rw [if_neg Bool.false_ne_true] at h ⊢; exact b.h r _ h)⟩
def cNot (a : XT) : XT := ⟨DS.cNot a.m, fun s => (a.f s).bind fun x => .ok !x, a.z, fun r R h => a.h r _ (wpb h fun x h => h)⟩
def cYes : XT := ⟨DS.cYes, fun _ => .ok true, rfl, fun _ _ h => h⟩
def eAnd (a b : XE) : XE := ⟨DS.eAnd a.m b.m, fun s => (a.f s).bind fun x => (asB x).bind fun k => if k = true then b.f s else .ok (.bl false), z2 a.z b.z, fun r R h => a.h r _ (wpb h fun x h => by
  obtain ⟨k, rfl, h2⟩ := asw h
  refine ⟨k, rfl, ?_⟩
  cases k with
  | true => rw [if_pos rfl] at h2 ⊢; exact b.h r _ h2
  | false => rw [if_neg Bool.false_ne_true] at h2 ⊢; exact h2)⟩
def eOr (a b : XE) : XE := ⟨DS.eOr a.m b.m, fun s => (a.f s).bind fun x => (asB x).bind fun k => if k = true then .ok (.bl true) else b.f s, z2 a.z b.z, fun r R h => a.h r _ (wpb h fun x h => by
  obtain ⟨k, rfl, h2⟩ := asw h
  refine ⟨k, rfl, ?_⟩
  cases k with
  | true => rw [if_pos rfl] at h2 ⊢; exact h2
  | false => rw [if_neg Bool.false_ne_true] at h2 ⊢; exact b.h r _ h2)⟩
def eNot (a : XE) : XE := ⟨DS.eNot a.m, fun s => (a.f s).bind fun x => (asB x).bind fun k => .ok (.bl !k), a.z, fun r R h => a.h r _ (wpb h fun x h => by
  obtain ⟨k, rfl, h2⟩ := asw h
  exact ⟨k, rfl, h2⟩)⟩
def eIf (c : XT) (a b : XE) : XE := ⟨DS.eIf c.m a.m b.m, fun s => (c.f s).bind fun k => if k = true then a.f s else b.f s, z3' c.z a.z b.z, fun r R h => c.h r _ (wpb h fun k h => by
  cases k with
  | true => rw [if_pos rfl] at h ⊢; exact a.h r _ h
  | false => rw [if_neg Bool.false_ne_true] at h ⊢; exact b.h r _ h)⟩
def aNil : XA := ⟨DS.aNil, fun _ => .ok [], rfl, fun _ _ h => h⟩
def aCons (a : XE) (b : XA) : XA := ⟨DS.aCons a.m b.m, fun s => (a.f s).bind fun x => (b.f s).bind fun xs => .ok (x :: xs), z2 a.z b.z, fun r R h => a.h r _ (wpb h fun x h => b.h r _ (wpb h fun xs h => h))⟩
def eTup (a : XA) : XE := ⟨DS.eTup a.m, fun s => (a.f s).bind fun ds => fit ds.length (.ok (.tup ds)), a.z, fun r R h => a.h r _ (wpb h fun ds h => fitw h)⟩
def eLst (a : XA) : XE := ⟨DS.eLst a.m, fun s => (a.f s).bind fun ds => fit ds.length (.ok (.lst ds)), a.z, fun r R h => a.h r _ (wpb h fun ds h => fitw h)⟩
def fLst (a : XA) : XF := ⟨DS.fLst a.m, fun s => (a.f s).bind fun ds => fit ds.length (.ok (.ol ds)), a.z, fun r R h => a.h r _ (wpb h fun ds h => fitw h)⟩
def eCB (g : List D → Option D) (a : XA) : XE := ⟨DS.eCB g a.m, fun s => (a.f s).bind fun ds => of (g ds), a.z, fun r R h => a.h r _ (wpb h fun ds h => ofw h)⟩
def eCall (F : XFn) (a : XA) : XE := ⟨DS.eCall F.S a.m, fun s => (a.f s).bind fun ds => (F.F ds).calm, z2 a.z rfl, fun r R h => a.h r _ (wpb h fun ds h => calmw h)⟩
def eCallK (pm : List Nat) (F : XFn) (a : XA) : XE := ⟨DS.eCallK pm F.S a.m, fun s => (a.f s).bind fun ds => (F.F (picks pm ds)).calm, z2 a.z rfl, fun r R h => a.h r _ (wpb h fun ds h => calmw h)⟩
def eCallX (F : XFn) (a : XA) : XE := ⟨DS.eCallX F.Sx a.m, fun s => (a.f s).bind fun ds => F.F ds, z2 a.z rfl, fun r R h => a.h r _ (wpb h fun ds h => h)⟩
def eCallN (F : XFn) (a : XA) : XE := ⟨DS.eCallN F.Sx a.m, fun s => (a.f s).bind fun ds => (F.F ds).calm, z2 a.z rfl, fun r R h => a.h r _ (wpb h fun ds h => calmw h)⟩
def eM1 (g : D → D → Option D) (a b : XE) : XE := ⟨DS.eM1 g a.m b.m, fun s => (a.f s).bind fun x => (asS x).bind fun _ => (b.f s).bind fun y => of (g x y), z2 a.z b.z, fun r R h => a.h r _ (wpb h fun x h => by
  obtain ⟨e, _, h⟩ := asSw h
  exact ⟨e, b.h r _ (wpb h fun _ h => ofw h)⟩)⟩
def asT : D → Res (List D)
  | .tup ds => .ok ds
  | _ => .no
@[simp] theorem asT_tup {ds} : asT (.tup ds) = .ok ds := Eq.trans rfl rfl
def eRev (a : XE) : XE := ⟨DS.eRev a.m, fun s => (a.f s).bind fun d => (asT d).bind fun ds => .ok (.tup ds.reverse), a.z, fun r R h => a.h r _ (wpb h fun d h => by
  cases d with
  | tup ds => exact ⟨ds, rfl, h⟩
  | _ => exact h.elim)⟩
def oNo : XO := ⟨DS.oNo, fun _ => .ok none, rfl, fun _ _ h => h⟩
def oYes (a : XE) : XO := ⟨DS.oYes a.m, fun s => (a.f s).bind fun d => (asI d).bind fun i => .ok (some i), a.z, fun r R h => a.h r _ (wpb h fun d h => aiw h)⟩
def eSl (a : XE) (lo hi : XO) : XE := ⟨DS.eSl a.m lo.m hi.m, fun s => (a.f s).bind fun x => (lo.f s).bind fun l => (hi.f s).bind fun h => of (slD x l h), z3 a.z lo.z hi.z, fun r R h => a.h r _ (wpb h fun _ h => lo.h r _ (wpb h fun _ h => hi.h r _ (wpb h fun _ h => ofw h)))⟩

/-! what is walked, targets -/
def iSeq (a : XE) : XI := ⟨DS.iSeq a.m, fun s => (a.f s).bind fun d => of (items d), a.z, fun r R h => a.h r _ (wpb h fun d h => ofw h)⟩
def rng : List D → Res (List D)
  | [.int n] => if -(2 ^ 62) ≤ n ∧ n.toNat ≤ sizeLine then .ok (upto n.toNat) else .no
  | _ => .no
def iRange (a : XA) : XI := ⟨DS.iRange a.m, fun s => (a.f s).bind rng, a.z, fun r R h => a.h r _ (wpb h fun ds h => by
  match ds, h with
  | [.int n], h =>
    have h : (if -(2 ^ 62) ≤ n ∧ n.toNat ≤ sizeLine then Res.ok (upto n.toNat) else .no).wp R r.ew := h
    split at h
    · rename_i hn
      exact ⟨n, rfl, hn.1, hn.2, h⟩
    · exact h.elim)⟩
def en : List D → Res (List D)
  | [d] => (of (items d)).bind fun l => .ok (numd 0 l)
  | _ => .no
@[simp] theorem en_1 {d} : en [d] = (of (items d)).bind fun l => .ok (numd 0 l) := Eq.trans rfl rfl
def iEnum (a : XA) : XI := ⟨DS.iEnum a.m, fun s => (a.f s).bind en, a.z, fun r R h => a.h r _ (wpb h fun ds h => by
  match ds, h with
  | [d], h =>
    obtain ⟨l, e, h⟩ := ofb (show ((of (items d)).bind fun l => Res.ok (numd 0 l)).wp R r.ew from h)
    exact ⟨d, l, rfl, e, h⟩)⟩
def gN (i : Nat) : XG := ⟨DS.gN i, fun d s => .ok (s.set i (.sh d)), fun _ _ _ h => h⟩
def two : D → Res (D × D)
  | .tup [x, y] => .ok (x, y)
  | _ => .no
@[simp] theorem two_tup {x y} : two (.tup [x, y]) = .ok (x, y) := Eq.trans rfl rfl
def gP (i j : Nat) : XG := ⟨DS.gP i j, fun d s => (two d).bind fun p => .ok ((s.set i (.sh p.1)).set j (.sh p.2)), fun d r R h => by
  unfold two at h
  split at h
  · exact ⟨_, _, rfl, h⟩
  · exact h.elim⟩
def setA (s : List Sl) : List Nat → List D → List Sl
  | i :: is, d :: ds => setA (s.set i (.sh d)) is ds
  | _, _ => s
@[simp] theorem setA_nil {s ds} : setA s [] ds = s := by cases ds <;> rfl
@[simp] theorem setA_cons {s i is d ds} : setA s (i :: is) (d :: ds) = setA (s.set i (.sh d)) is ds := Eq.trans rfl rfl
theorem setA_put : ∀ (is : List Nat) (ds : List D) (r : Env), putAll r is ds = ⟨setA r.sl is ds, r.ew⟩
  | [], ds, r => by cases ds <;> rfl
  | i :: is, [], r => rfl
  | i :: is, d :: ds, r => setA_put is ds (r.put i d)
def gNs (is : List Nat) : XG := ⟨DS.gNs is, fun d s => (asT d).bind fun ds => if ds.length = is.length then .ok (setA s is ds) else .no, fun d r R h => by
  cases d with
  | tup ds =>
    have h : (if ds.length = is.length then Res.ok (setA r.sl is ds) else .no).wp (fun s => R ⟨s, r.ew⟩) (fun _ => False) := h
    split at h
    · rename_i hl
      exact ⟨ds, rfl, hl, by rw [setA_put]; exact h⟩
    · exact h.elim
  | _ => exact h.elim⟩

/-! loops -/
/-- what follows a statement -/
def thenS (o : Out) (k : List Sl → Res Out) : Res Out := match o with
  | .nx s => k s
  | o => .ok o
@[simp] theorem thenS_nx {s k} : thenS (.nx s) k = k s := Eq.trans rfl rfl
@[simp] theorem thenS_rt {d k} : thenS (.rt d) k = .ok (.rt d) := Eq.trans rfl rfl
@[simp] theorem thenS_bk {d k} : thenS (.bk d) k = .ok (.bk d) := Eq.trans rfl rfl
@[simp] theorem thenS_ct {d k} : thenS (.ct d) k = .ok (.ct d) := Eq.trans rfl rfl
/-- a loop's turn -/
def turnS (o : Out) (k : List Sl → Res Out) : Res Out := match o with
  | .nx s => k s
  | .ct s => k s
  | .bk s => .ok (.nx s)
  | .rt d => .ok (.rt d)
@[simp] theorem turnS_nx {s k} : turnS (.nx s) k = k s := Eq.trans rfl rfl
@[simp] theorem turnS_rt {d k} : turnS (.rt d) k = .ok (.rt d) := Eq.trans rfl rfl
@[simp] theorem turnS_bk {s k} : turnS (.bk s) k = .ok (.nx s) := Eq.trans rfl rfl
@[simp] theorem turnS_ct {s k} : turnS (.ct s) k = k s := Eq.trans rfl rfl
def forF (g : D → List Sl → Res (List Sl)) (b : List Sl → Res Out) : List D → List Sl → Res Out
  | [], s => .ok (.nx s)
  | d :: ds, s => (g d s).calm.bind fun s1 => (b s1).bind fun o => turnS o (forF g b ds)
theorem forF_w {g : XG} {b : XS} {W : WEnds} : ∀ (ds : List D) (r : Env), (forF g.f b.f ds r.sl).wp (Out.to W r.ew) r.ew → forW g.m b.m W ds r
  | [], r, h => h
  | d :: ds, r, h => by
    show g.m d r _
    refine g.h d r _ ?_
    have h : ((g.f d r.sl).calm.bind fun s1 => (b.f s1).bind fun o => turnS o (forF g.f b.f ds)).wp (Out.to W r.ew) r.ew := h
    cases e : g.f d r.sl with
    | no => rw [e] at h; exact h
    | er x => rw [e] at h; exact h
    | ok s1 =>
      rw [e] at h
      refine b.h _ ⟨s1, r.ew⟩ (wpb h fun o ho => ?_)
      cases o with
      | nx s => exact forF_w ds ⟨s, r.ew⟩ ho
      | ct s => exact forF_w ds ⟨s, r.ew⟩ ho
      | bk s => exact ho
      | rt d => exact ho
def sFor (i : XI) (g : XG) (b : XS) : XS := ⟨DS.sFor i.m g.m b.m, fun s => (i.f s).bind fun ds => forF g.f b.f ds s, by show i.m.n + sizeLine * b.m.n = 0; rw [i.z, b.z]; rfl, fun W r h => i.h r _ (wpb h fun ds h => forF_w ds r h)⟩
/-- a while, as long as there is something left to burn -/
def whF (c : List Sl → Res Bool) (b : List Sl → Res Out) : Nat → List Sl → Res Out
  | 0, _ => .no
  | n + 1, s => (c s).bind fun k => if k = true then (b s).bind fun o => turnS o (whF c b n) else .ok (.nx s)
def sWhile (c : XT) (b : XS) : XS := ⟨DS.sWhile c.m b.m, whF c.f b.f (sizeLine + 1), by show (sizeLine + 1) * (c.m.n + b.m.n) = 0; rw [c.z, b.z]; rfl, fun W r h => by
  refine ⟨fun m r' => r'.ew = r.ew ∧ (whF c.f b.f (m + 1) r'.sl).wp (Out.to W r.ew) r.ew, ⟨sizeLine, Nat.le_refl _, rfl, h⟩, ?_⟩
  rintro m ⟨s, ew⟩ ⟨e, h⟩
  have e : ew = r.ew := e
  subst e
  have h : ((c.f s).bind fun k => if k = true then (b.f s).bind fun o => turnS o (whF c.f b.f m) else .ok (.nx s)).wp (Out.to W r.ew) r.ew := h
  refine c.h ⟨s, r.ew⟩ _ (wpb h fun k hk => ?_)
  cases k with
  | true =>
    rw [if_pos rfl] at hk ⊢
    refine b.h _ ⟨s, r.ew⟩ (wpb hk fun o ho => ?_)
    cases o with
    | nx s' => cases m with
      | zero => exact ho.elim
      | succ m => exact ⟨m, Nat.lt_succ_self m, rfl, ho⟩
    | ct s' => cases m with
      | zero => exact ho.elim
      | succ m => exact ⟨m, Nat.lt_succ_self m, rfl, ho⟩
    | bk s' => exact ho
    | rt d => exact ho
  | false =>
    rw [if_neg Bool.false_ne_true] at hk ⊢
    exact hk⟩
/-- comprehensions -/
def lcF (g : D → List Sl → Res (List Sl)) (c : List Sl → Res Bool) (e : List Sl → Res D) (s : List Sl) : List D → Res (List D)
  | [] => .ok []
  | d :: ds => (g d s).bind fun s1 => (c s1).bind fun b => if b = true then (e s1).bind fun z => (lcF g c e s ds).bind fun zs => .ok (z :: zs) else lcF g c e s ds
theorem calm_bind' {α β : Type} {q : Res α} {f : α → Res β} {R : β → Prop} (h : (q.bind f).wp R fun _ => False) : (q.bind f).wp R fun _ => False := h
theorem lcF_w {g : XG} {c : XT} {e : XE} {r : Env} (hr : r.ew = fun _ => False) {k : List D → Prop} : ∀ (ds out : List D), (lcF g.f c.f e.f r.sl ds).wp (fun zs => k (out ++ zs)) (fun _ => False) → lcW g.m c.m e.m r k ds out
  | [], out, h => by
    have h : k (out ++ []) := h
    rw [List.append_nil] at h
    exact h
  | d :: ds, out, h => by
    obtain ⟨sl, ew⟩ := r
    have hr : ew = fun _ => False := hr
    subst hr
    refine g.h d _ _ (wpb (h : ((g.f d sl).bind fun s1 => (c.f s1).bind fun b => if b = true then (e.f s1).bind fun z => (lcF g.f c.f e.f sl ds).bind fun zs => .ok (z :: zs) else lcF g.f c.f e.f sl ds).wp (fun zs => k (out ++ zs)) fun _ => False) fun s1 h => ?_)
    refine c.h ⟨s1, fun _ => False⟩ _ (wpb h fun b h => ?_)
    cases b with
    | true =>
      rw [if_pos rfl] at h ⊢
      refine e.h ⟨s1, fun _ => False⟩ _ (wpb h fun z h => ?_)
      refine lcF_w (r := ⟨sl, fun _ => False⟩) rfl ds _ (wpb h fun zs h => ?_)
      rw [List.append_assoc]
      exact h
    | false =>
      rw [if_neg Bool.false_ne_true] at h ⊢
      exact lcF_w (r := ⟨sl, fun _ => False⟩) rfl ds out h
def fLc (i : XI) (g : XG) (c : XT) (e : XE) (vs : List Nat) : XF := ⟨DS.fLc i.m g.m c.m e.m vs, fun s => (i.f s).bind fun ds => (lcF g.f c.f e.f (wipeL s vs) ds).calm.bind fun zs => .ok (.ol zs), by show i.m.n + sizeLine * (c.m.n + e.m.n) = 0; rw [i.z, c.z, e.z]; rfl, fun r R h => i.h r _ (wpb h fun ds h => lcF_w (r := wipeE r vs) rfl ds [] (by
  cases q : lcF g.f c.f e.f (wipeL r.sl vs) ds with
  | no => rw [q] at h; exact h.elim
  | er x => rw [q] at h; exact h.elim
  | ok zs =>
    rw [q] at h
    show (lcF g.f c.f e.f (wipeL r.sl vs) ds).wp _ _
    rw [q]
    exact h))⟩
def eLc (i : XI) (g : XG) (c : XT) (e : XE) (vs : List Nat) : XE := ⟨DS.eLc i.m g.m c.m e.m vs, fun s => (i.f s).bind fun ds => (lcF g.f c.f e.f (wipeL s vs) ds).calm.bind fun zs => .ok (.lst zs), by show i.m.n + sizeLine * (c.m.n + e.m.n) = 0; rw [i.z, c.z, e.z]; rfl, fun r R h => i.h r _ (wpb h fun ds h => lcF_w (r := wipeE r vs) rfl ds [] (by
  cases q : lcF g.f c.f e.f (wipeL r.sl vs) ds with
  | no => rw [q] at h; exact h.elim
  | er x => rw [q] at h; exact h.elim
  | ok zs =>
    rw [q] at h
    show (lcF g.f c.f e.f (wipeL r.sl vs) ds).wp _ _
    rw [q]
    exact h))⟩
/-- .. with two fors -/
def lcF2 (g : D → List Sl → Res (List Sl)) (c : List Sl → Res Bool) (i1 : List Sl → Res (List D)) (g1 : D → List Sl → Res (List Sl)) (c1 : List Sl → Res Bool) (e : List Sl → Res D) (vs1 : List Nat) (s : List Sl) : List D → Res (List D)
  | [] => .ok []
  | d :: ds => (g d s).bind fun s1 => (c s1).bind fun b => if b = true then (i1 s1).bind fun ds1 => if ds1.length ≤ 4096 then (lcF g1 c1 e (wipeL s1 vs1) ds1).bind fun zs1 => (lcF2 g c i1 g1 c1 e vs1 s ds).bind fun zs => .ok (zs1 ++ zs) else .no else lcF2 g c i1 g1 c1 e vs1 s ds
theorem lcF2_w {g g1 : XG} {c c1 : XT} {i1 : XI} {e : XE} {vs1 : List Nat} {r : Env} (hr : r.ew = fun _ => False) {k : List D → Prop} : ∀ (ds out : List D), (lcF2 g.f c.f i1.f g1.f c1.f e.f vs1 r.sl ds).wp (fun zs => k (out ++ zs)) (fun _ => False) → lcW2 g.m c.m i1.m g1.m c1.m e.m vs1 r k ds out
  | [], out, h => by
    have h : k (out ++ []) := h
    rw [List.append_nil] at h
    exact h
  | d :: ds, out, h => by
    obtain ⟨sl, ew⟩ := r
    have hr : ew = fun _ => False := hr
    subst hr
    refine g.h d _ _ (wpb (h : ((g.f d sl).bind fun s1 => (c.f s1).bind fun b => if b = true then (i1.f s1).bind fun ds1 => if ds1.length ≤ 4096 then (lcF g1.f c1.f e.f (wipeL s1 vs1) ds1).bind fun zs1 => (lcF2 g.f c.f i1.f g1.f c1.f e.f vs1 sl ds).bind fun zs => .ok (zs1 ++ zs) else .no else lcF2 g.f c.f i1.f g1.f c1.f e.f vs1 sl ds).wp (fun zs => k (out ++ zs)) fun _ => False) fun s1 h => ?_)
    refine c.h ⟨s1, fun _ => False⟩ _ (wpb h fun b h => ?_)
    cases b with
    | true =>
      rw [if_pos rfl] at h ⊢
      refine i1.h ⟨s1, fun _ => False⟩ _ (wpb h fun ds1 h => ?_)
      split at h
      · rename_i hl
        refine ⟨hl, lcF_w (r := wipeE ⟨s1, fun _ => False⟩ vs1) rfl ds1 out (wpb h fun zs1 h => ?_)⟩
        refine lcF2_w (r := ⟨sl, fun _ => False⟩) rfl ds _ (wpb h fun zs h => ?_)
        rw [List.append_assoc]
        exact h
      · exact h.elim
    | false =>
      rw [if_neg Bool.false_ne_true] at h ⊢
      exact lcF2_w (r := ⟨sl, fun _ => False⟩) rfl ds out h
def fLc2 (i : XI) (g : XG) (c : XT) (i1 : XI) (g1 : XG) (c1 : XT) (e : XE) (vs vs1 : List Nat) : XF := ⟨DS.fLc2 i.m g.m c.m i1.m g1.m c1.m e.m vs vs1, fun s => (i.f s).bind fun ds => if ds.length ≤ 4096 then (lcF2 g.f c.f i1.f g1.f c1.f e.f vs1 (wipeL s vs) ds).calm.bind fun zs => .ok (.ol zs) else .no,
  by show i.m.n + 4096 * (c.m.n + (i1.m.n + 4096 * (c1.m.n + e.m.n))) = 0; rw [i.z, c.z, i1.z, c1.z, e.z], fun r R h => i.h r _ (wpb h fun ds h => by
  split at h
  · rename_i hl
    refine ⟨hl, lcF2_w (r := wipeE r vs) rfl ds [] ?_⟩
    cases q : lcF2 g.f c.f i1.f g1.f c1.f e.f vs1 (wipeL r.sl vs) ds with
    | no => rw [q] at h; exact h.elim
    | er x => rw [q] at h; exact h.elim
    | ok zs =>
      rw [q] at h
      show (lcF2 g.f c.f i1.f g1.f c1.f e.f vs1 (wipeL r.sl vs) ds).wp _ _
      rw [q]
      exact h
  · exact h.elim)⟩
def asL : Sl → Res D
  | .ol ds => .ok (.lst ds)
  | _ => .no
@[simp] theorem asL_ol {ds} : asL (.ol ds) = .ok (.lst ds) := Eq.trans rfl rfl
def F.e (a : XF) : XE := ⟨a.m.e, fun s => (a.f s).bind asL, a.z, fun r R h => a.h r _ (wpb h fun x h => by
  cases x with
  | ol ds => exact h
  | _ => exact h.elim)⟩
end X
/-- a two-for comprehension as a value -/
def XF.e (a : XF) : XE := X.F.e a
namespace X
def fOk : XF := ⟨⟨fun _ R => R (.ok []), 0⟩, fun _ => .ok (.ok []), rfl, fun _ _ h => h⟩
def fOt : XF := ⟨⟨fun _ R => R (.ot []), 0⟩, fun _ => .ok (.ot []), rfl, fun _ _ h => h⟩

/-! statements -/
def sNext : XS := ⟨DS.sNext, fun s => .ok (.nx s), rfl, fun _ _ h => h⟩
def sSeq (a b : XS) : XS := ⟨DS.sSeq a.m b.m, fun s => (a.f s).bind fun o => thenS o b.f, z2 a.z b.z, fun W r h => a.h _ r (wpb h fun o h => by
  cases o with
  | nx s => exact b.h W ⟨s, r.ew⟩ h
  | rt d => exact h
  | bk s => exact h
  | ct s => exact h)⟩
def sRet (a : XE) : XS := ⟨DS.sRet a.m, fun s => (a.f s).bind fun d => .ok (.rt d), a.z, fun W r h => a.h r _ (wpb h fun _ h => h)⟩
def sRetN : XS := ⟨DS.sRetN, fun _ => .ok (.rt .non), rfl, fun _ _ h => h⟩
def sIf (c : XT) (a b : XS) : XS := ⟨DS.sIf c.m a.m b.m, fun s => (c.f s).bind fun k => if k = true then a.f s else b.f s, z3' c.z a.z b.z, fun W r h => c.h r _ (wpb h fun k h => by
  cases k with
  | true => rw [if_pos rfl] at h ⊢; exact a.h W r h
  | false => rw [if_neg Bool.false_ne_true] at h ⊢; exact b.h W r h)⟩
def sDo (a : XE) : XS := ⟨DS.sDo a.m, fun s => (a.f s).bind fun _ => .ok (.nx s), a.z, fun W r h => a.h r _ (wpb h fun _ h => h)⟩
def sSet (i : Nat) (a : XE) : XS := ⟨DS.sSet i a.m, fun s => (a.f s).bind fun d => .ok (.nx (s.set i (.sh d))), a.z, fun W r h => a.h r _ (wpb h fun _ h => h)⟩
def sBrk : XS := ⟨DS.sBrk, fun s => .ok (.bk s), rfl, fun _ _ h => h⟩
def sCnt : XS := ⟨DS.sCnt, fun s => .ok (.ct s), rfl, fun _ _ h => h⟩
def pr : List D → Res (D × D)
  | [x, y] => .ok (x, y)
  | _ => .no
@[simp] theorem pr_2 {x y} : pr [x, y] = .ok (x, y) := Eq.trans rfl rfl
def sPar (i j : Nat) (a : XA) : XS := ⟨DS.sPar i j a.m, fun s => (a.f s).bind fun ds => (pr ds).bind fun p => .ok (.nx ((s.set i (.sh p.1)).set j (.sh p.2))), a.z, fun W r h => a.h r _ (wpb h fun ds h => by
  match ds, h with
  | [x, y], h => exact ⟨x, y, rfl, h⟩)⟩
def sOwn (i : Nat) (a : XF) : XS := ⟨DS.sOwn i a.m, fun s => (a.f s).bind fun x => if i < s.length then .ok (.nx (s.set i x)) else .no, a.z, fun W r h => a.h r _ (wpb h fun x h => by
  split at h
  · exact ⟨by assumption, h⟩
  · exact h.elim)⟩
def sParO (i j : Nat) (a : XF) (b : XE) : XS := ⟨DS.sParO i j a.m b.m, fun s => (a.f s).bind fun x => (b.f s).bind fun d => if i < s.length then .ok (.nx ((s.set i x).set j (.sh d))) else .no, z2 a.z b.z, fun W r h => a.h r _ (wpb h fun x h => b.h r _ (wpb h fun d h => by
  split at h
  · exact ⟨by assumption, h⟩
  · exact h.elim))⟩
def sApp (i : Nat) (a : XE) : XS := ⟨DS.sApp i a.m, fun s => (olS s i).bind fun ds => (a.f s).bind fun d => fit (ds.length + 1) (.ok (.nx (s.set i (.ol (ds ++ [d]))))), a.z, fun W r h => by
  obtain ⟨ds, e, h⟩ := olw h
  exact ⟨ds, e, a.h r _ (wpb h fun d h => ⟨(fitw h).1, (fitw h).2⟩)⟩⟩
def sPut (i : Nat) (e a : XE) : XS := ⟨DS.sPut i e.m a.m, fun s => (a.f s).bind fun d => (olS s i).bind fun ds => (e.f s).bind fun z => (asI z).bind fun n => (of (ixN ds.length n)).bind fun j => .ok (.nx (s.set i (.ol (ds.set j d)))), z2 a.z e.z, fun W r h => a.h r _ (wpb h fun d h => by
  obtain ⟨ds, q, h⟩ := olw h
  refine ⟨ds, q, e.h r _ (wpb h fun z h => ?_)⟩
  obtain ⟨n, rfl, h⟩ := aiw h
  obtain ⟨j, q2, h⟩ := ofb h
  exact ⟨n, j, rfl, q2, h⟩)⟩
def eOwnIx (i : Nat) (e : XE) : XE := ⟨DS.eOwnIx i e.m, fun s => (olS s i).bind fun ds => (e.f s).bind fun z => (asI z).bind fun n => of (atI ds n), e.z, fun r R h => by
  obtain ⟨ds, q, h⟩ := olw h
  refine ⟨ds, q, e.h r _ (wpb h fun z h => ?_)⟩
  obtain ⟨n, rfl, h⟩ := aiw h
  obtain ⟨d, q2, h⟩ := ofw h
  exact ⟨n, d, rfl, q2, h⟩⟩
def sGive (i : Nat) (a : XS) : XS := ⟨DS.sGive i a.m, fun s => (olS s i).bind fun ds => a.f (s.set i (.sh (.lst ds))), a.z, fun W r h => by
  obtain ⟨ds, q, h⟩ := olw h
  exact ⟨ds, q, a.h W ⟨r.sl.set i (.sh (.lst ds)), r.ew⟩ h⟩⟩
def keyOf : D → Option Key
  | .int i => some (.inl i)
  | .str x => some (.inr x)
  | _ => none
def keysOf : List D → Option (List Key)
  | [] => some []
  | d :: ds => (keyOf d).bind fun k => (keysOf ds).map (k :: ·)
theorem keysOf_inv : ∀ {ds : List D} {ks : List Key}, keysOf ds = some ks → ds = ks.map keyD
  | [], _, h => by cases h; rfl
  | d :: ds, ks, h => by
    have h : ((keyOf d).bind fun k => (keysOf ds).map (k :: ·)) = some ks := h
    cases e : keyOf d with
    | none => rw [e] at h; cases h
    | some k =>
      rw [e] at h
      cases e2 : keysOf ds with
      | none => rw [e2] at h; cases h
      | some k2 =>
        rw [e2] at h
        cases h
        rw [List.map_cons, ← keysOf_inv e2]
        cases d with
        | int i => cases e; rfl
        | str i => cases e; rfl
        | _ => cases e
def sPutT (i : Nat) (e : XA) (a : XE) : XS := ⟨DS.sPutT i e.m a.m, fun s => (a.f s).bind fun d => (otS s i).bind fun kvs => (e.f s).bind fun ds => (of (keysOf ds)).bind fun k => fit ds.length (fit (kvs.length + 1) (.ok (.nx (s.set i (.ot (putKV kvs k d)))))), z2 a.z e.z, fun W r h => a.h r _ (wpb h fun d h => by
  obtain ⟨kvs, q, h⟩ := otw h
  refine ⟨kvs, q, e.h r _ (wpb h fun ds h => ?_)⟩
  obtain ⟨k, q2, h⟩ := ofb h
  exact ⟨k, keysOf_inv q2, (fitw h).1, (fitw (fitw h).2).1, (fitw (fitw h).2).2⟩)⟩
def eGetT (i : Nat) (e : XA) : XE := ⟨DS.eGetT i e.m, fun s => (otS s i).bind fun kvs => (e.f s).bind fun ds => (of (keysOf ds)).bind fun k => fit ds.length (of (getKV kvs k)), e.z, fun r R h => by
  obtain ⟨kvs, q, h⟩ := otw h
  refine ⟨kvs, q, e.h r _ (wpb h fun ds h => ?_)⟩
  obtain ⟨k, q2, h⟩ := ofb h
  obtain ⟨d, q3, h2⟩ := ofw (fitw h).2
  exact ⟨k, d, keysOf_inv q2, (fitw h).1, q3, h2⟩⟩
def sUnp (a : XE) (g : XG) : XS := ⟨DS.sUnp a.m g.m, fun s => (a.f s).bind fun d => (g.f d s).calm.bind fun s' => .ok (.nx s'), a.z, fun W r h => a.h r _ (wpb h fun d h => g.h d r _ (by
  cases e : g.f d r.sl with
  | no => rw [e] at h; exact h.elim
  | er x => rw [e] at h; exact h.elim
  | ok s => rw [e] at h; exact h))⟩
def sRaise (x : Str) : XS := ⟨DS.sRaise x, fun _ => .er ⟨x, []⟩, rfl, fun _ _ h => h⟩
/-- what the catching def makes of an end -/
def caughtR (cs : List Str) : Res D → Res D
  | .ok _ => .ok .non
  | .er x => if x.cls ∈ cs ∧ x.fs = [] then .ok (.err x.cls [] []) else .no
  | .no => .no
@[simp] theorem caughtR_ok {cs d} : caughtR cs (.ok d) = .ok .non := Eq.trans rfl rfl
@[simp] theorem caughtR_er {cs x} : caughtR cs (.er x) = if x.cls ∈ cs ∧ x.fs = [] then .ok (.err x.cls [] []) else .no := Eq.trans rfl rfl
def eCaught (cs : List Str) (a : XE) : XE := ⟨DS.eCaught cs a.m, fun s => caughtR cs (a.f (s.map Sl.hide)), a.z, fun r R h => by
  refine a.h (hideE r fun x => x.cls ∈ cs ∧ x.fs = [] ∧ R (.err x.cls [] [])) _ ?_
  show (a.f (r.sl.map Sl.hide)).wp _ _
  cases e : a.f (r.sl.map Sl.hide) with
  | no => rw [e] at h; exact h
  | ok d => rw [e] at h; exact h
  | er x =>
    rw [e] at h
    have h : (if x.cls ∈ cs ∧ x.fs = [] then Res.ok (.err x.cls [] []) else .no).wp R r.ew := h
    split at h
    · rename_i hx
      exact ⟨hx.1, hx.2, h⟩
    · exact h.elim⟩
end X
end DS
/-! DS26: what the functions are, to be read. -/
namespace DS
open PySem PySem.Spec PyProof.Rows L2
open Res
namespace X
@[simp] theorem eVar_f {i : Nat} {s : List Sl} : (eVar i).f s = (shS s i) := Eq.trans rfl rfl
@[simp] theorem eC_f {d : D} {s : List Sl} : (eC d).f s = (.ok d) := Eq.trans rfl rfl
@[simp] theorem eOp_f {g : D → D → Option D} {a b : XE} {s : List Sl} : (eOp g a b).f s = ((a.f s).bind fun x => (b.f s).bind fun y => of (g x y)) := Eq.trans rfl rfl
@[simp] theorem eUn_f {g : D → Option D} {a : XE} {s : List Sl} : (eUn g a).f s = ((a.f s).bind fun x => of (g x)) := Eq.trans rfl rfl
@[simp] theorem tV_f {a : XE} {s : List Sl} : (tV a).f s = ((a.f s).bind asB) := Eq.trans rfl rfl
@[simp] theorem eCh_f {g g' : D → D → Option D} {a b c : XE} {s : List Sl} : (eCh g g' a b c).f s = ((a.f s).bind fun x => (b.f s).bind fun y => (of (g x y)).bind fun k => (asB k).bind fun k => if k = true then (c.f s).bind fun w => of (g' y w) else .ok (.bl false)) := Eq.trans rfl rfl
@[simp] theorem cAnd_f {a b : XT} {s : List Sl} : (cAnd a b).f s = ((a.f s).bind fun x => if x = true then b.f s else .ok false) := Eq.trans rfl rfl
@[simp] theorem cOr_f {a b : XT} {s : List Sl} : (cOr a b).f s = ((a.f s).bind fun x => if x = true then .ok true else b.f s) := Eq.trans rfl rfl
@[simp] theorem cNot_f {a : XT} {s : List Sl} : (cNot a).f s = ((a.f s).bind fun x => .ok !x) := Eq.trans rfl rfl
@[simp] theorem cYes_f {s : List Sl} : (cYes).f s = (.ok true) := Eq.trans rfl rfl
@[simp] theorem eAnd_f {a b : XE} {s : List Sl} : (eAnd a b).f s = ((a.f s).bind fun x => (asB x).bind fun k => if k = true then b.f s else .ok (.bl false)) := Eq.trans rfl rfl
@[simp] theorem eOr_f {a b : XE} {s : List Sl} : (eOr a b).f s = ((a.f s).bind fun x => (asB x).bind fun k => if k = true then .ok (.bl true) else b.f s) := Eq.trans rfl rfl
@[simp] theorem eNot_f {a : XE} {s : List Sl} : (eNot a).f s = ((a.f s).bind fun x => (asB x).bind fun k => .ok (.bl !k)) := Eq.trans rfl rfl
@[simp] theorem eIf_f {c : XT} {a b : XE} {s : List Sl} : (eIf c a b).f s = ((c.f s).bind fun k => if k = true then a.f s else b.f s) := Eq.trans rfl rfl
@[simp] theorem aNil_f {s : List Sl} : (aNil).f s = (.ok []) := Eq.trans rfl rfl
@[simp] theorem aCons_f {a : XE} {b : XA} {s : List Sl} : (aCons a b).f s = ((a.f s).bind fun x => (b.f s).bind fun xs => .ok (x :: xs)) := Eq.trans rfl rfl
@[simp] theorem eTup_f {a : XA} {s : List Sl} : (eTup a).f s = ((a.f s).bind fun ds => fit ds.length (.ok (.tup ds))) := Eq.trans rfl rfl
@[simp] theorem eLst_f {a : XA} {s : List Sl} : (eLst a).f s = ((a.f s).bind fun ds => fit ds.length (.ok (.lst ds))) := Eq.trans rfl rfl
@[simp] theorem fLst_f {a : XA} {s : List Sl} : (fLst a).f s = ((a.f s).bind fun ds => fit ds.length (.ok (.ol ds))) := Eq.trans rfl rfl
@[simp] theorem eCB_f {g : List D → Option D} {a : XA} {s : List Sl} : (eCB g a).f s = ((a.f s).bind fun ds => of (g ds)) := Eq.trans rfl rfl
@[simp] theorem eCall_f {F : XFn} {a : XA} {s : List Sl} : (eCall F a).f s = ((a.f s).bind fun ds => (F.F ds).calm) := Eq.trans rfl rfl
@[simp] theorem eCallK_f {pm : List Nat} {F : XFn} {a : XA} {s : List Sl} : (eCallK pm F a).f s = ((a.f s).bind fun ds => (F.F (picks pm ds)).calm) := Eq.trans rfl rfl
@[simp] theorem eCallX_f {F : XFn} {a : XA} {s : List Sl} : (eCallX F a).f s = ((a.f s).bind fun ds => F.F ds) := Eq.trans rfl rfl
@[simp] theorem eCallN_f {F : XFn} {a : XA} {s : List Sl} : (eCallN F a).f s = ((a.f s).bind fun ds => (F.F ds).calm) := Eq.trans rfl rfl
@[simp] theorem eM1_f {g : D → D → Option D} {a b : XE} {s : List Sl} : (eM1 g a b).f s = ((a.f s).bind fun x => (asS x).bind fun _ => (b.f s).bind fun y => of (g x y)) := Eq.trans rfl rfl
@[simp] theorem eRev_f {a : XE} {s : List Sl} : (eRev a).f s = ((a.f s).bind fun d => (asT d).bind fun ds => .ok (.tup ds.reverse)) := Eq.trans rfl rfl
@[simp] theorem oNo_f {s : List Sl} : (oNo).f s = (.ok none) := Eq.trans rfl rfl
@[simp] theorem oYes_f {a : XE} {s : List Sl} : (oYes a).f s = ((a.f s).bind fun d => (asI d).bind fun i => .ok (some i)) := Eq.trans rfl rfl
@[simp] theorem eSl_f {a : XE} {lo hi : XO} {s : List Sl} : (eSl a lo hi).f s = ((a.f s).bind fun x => (lo.f s).bind fun l => (hi.f s).bind fun h => of (slD x l h)) := Eq.trans rfl rfl
@[simp] theorem iSeq_f {a : XE} {s : List Sl} : (iSeq a).f s = ((a.f s).bind fun d => of (items d)) := Eq.trans rfl rfl
@[simp] theorem iRange_f {a : XA} {s : List Sl} : (iRange a).f s = ((a.f s).bind rng) := Eq.trans rfl rfl
@[simp] theorem iEnum_f {a : XA} {s : List Sl} : (iEnum a).f s = ((a.f s).bind en) := Eq.trans rfl rfl
@[simp] theorem gN_f {i : Nat} {d : D} {s : List Sl} : (gN i).f d s = (.ok (s.set i (.sh d))) := Eq.trans rfl rfl
@[simp] theorem gP_f {i j : Nat} {d : D} {s : List Sl} : (gP i j).f d s = ((two d).bind fun p => .ok ((s.set i (.sh p.1)).set j (.sh p.2))) := Eq.trans rfl rfl
@[simp] theorem gNs_f {is : List Nat} {d : D} {s : List Sl} : (gNs is).f d s = ((asT d).bind fun ds => if ds.length = is.length then .ok (setA s is ds) else .no) := Eq.trans rfl rfl
theorem sFor_f {i : XI} {g : XG} {b : XS} {s : List Sl} : (sFor i g b).f s = ((i.f s).bind fun ds => forF g.f b.f ds s) := rfl
theorem sWhile_f {c : XT} {b : XS} {s : List Sl} : (sWhile c b).f s = ((whF c.f b.f (sizeLine + 1)) s) := rfl
theorem fLc_f {i : XI} {g : XG} {c : XT} {e : XE} {vs : List Nat} {s : List Sl} : (fLc i g c e vs).f s = ((i.f s).bind fun ds => (lcF g.f c.f e.f (wipeL s vs) ds).calm.bind fun zs => .ok (.ol zs)) := rfl
theorem eLc_f {i : XI} {g : XG} {c : XT} {e : XE} {vs : List Nat} {s : List Sl} : (eLc i g c e vs).f s = ((i.f s).bind fun ds => (lcF g.f c.f e.f (wipeL s vs) ds).calm.bind fun zs => .ok (.lst zs)) := rfl
theorem fLc2_f {i : XI} {g : XG} {c : XT} {i1 : XI} {g1 : XG} {c1 : XT} {e : XE} {vs vs1 : List Nat} {s : List Sl} : (fLc2 i g c i1 g1 c1 e vs vs1).f s = ((i.f s).bind fun ds => if ds.length ≤ 4096 then (lcF2 g.f c.f i1.f g1.f c1.f e.f vs1 (wipeL s vs) ds).calm.bind fun zs => .ok (.ol zs) else .no) := rfl
@[simp] theorem F_e_f {a : XF} {s : List Sl} : (F.e a).f s = ((a.f s).bind asL) := Eq.trans rfl rfl
@[simp] theorem fOk_f {s : List Sl} : (fOk).f s = (.ok (.ok [])) := Eq.trans rfl rfl
@[simp] theorem fOt_f {s : List Sl} : (fOt).f s = (.ok (.ot [])) := Eq.trans rfl rfl
@[simp] theorem sNext_f {s : List Sl} : (sNext).f s = (.ok (.nx s)) := Eq.trans rfl rfl
@[simp] theorem sSeq_f {a b : XS} {s : List Sl} : (sSeq a b).f s = ((a.f s).bind fun o => thenS o b.f) := Eq.trans rfl rfl
@[simp] theorem sRet_f {a : XE} {s : List Sl} : (sRet a).f s = ((a.f s).bind fun d => .ok (.rt d)) := Eq.trans rfl rfl
@[simp] theorem sRetN_f {s : List Sl} : (sRetN).f s = (.ok (.rt .non)) := Eq.trans rfl rfl
@[simp] theorem sIf_f {c : XT} {a b : XS} {s : List Sl} : (sIf c a b).f s = ((c.f s).bind fun k => if k = true then a.f s else b.f s) := Eq.trans rfl rfl
@[simp] theorem sDo_f {a : XE} {s : List Sl} : (sDo a).f s = ((a.f s).bind fun _ => .ok (.nx s)) := Eq.trans rfl rfl
@[simp] theorem sSet_f {i : Nat} {a : XE} {s : List Sl} : (sSet i a).f s = ((a.f s).bind fun d => .ok (.nx (s.set i (.sh d)))) := Eq.trans rfl rfl
@[simp] theorem sBrk_f {s : List Sl} : (sBrk).f s = (.ok (.bk s)) := Eq.trans rfl rfl
@[simp] theorem sCnt_f {s : List Sl} : (sCnt).f s = (.ok (.ct s)) := Eq.trans rfl rfl
@[simp] theorem sPar_f {i j : Nat} {a : XA} {s : List Sl} : (sPar i j a).f s = ((a.f s).bind fun ds => (pr ds).bind fun p => .ok (.nx ((s.set i (.sh p.1)).set j (.sh p.2)))) := Eq.trans rfl rfl
@[simp] theorem sOwn_f {i : Nat} {a : XF} {s : List Sl} : (sOwn i a).f s = ((a.f s).bind fun x => if i < s.length then .ok (.nx (s.set i x)) else .no) := Eq.trans rfl rfl
@[simp] theorem sParO_f {i j : Nat} {a : XF} {b : XE} {s : List Sl} : (sParO i j a b).f s = ((a.f s).bind fun x => (b.f s).bind fun d => if i < s.length then .ok (.nx ((s.set i x).set j (.sh d))) else .no) := Eq.trans rfl rfl
@[simp] theorem sApp_f {i : Nat} {a : XE} {s : List Sl} : (sApp i a).f s = ((olS s i).bind fun ds => (a.f s).bind fun d => fit (ds.length + 1) (.ok (.nx (s.set i (.ol (ds ++ [d])))))) := Eq.trans rfl rfl
@[simp] theorem sPut_f {i : Nat} {e a : XE} {s : List Sl} : (sPut i e a).f s = ((a.f s).bind fun d => (olS s i).bind fun ds => (e.f s).bind fun z => (asI z).bind fun n => (of (ixN ds.length n)).bind fun j => .ok (.nx (s.set i (.ol (ds.set j d))))) := Eq.trans rfl rfl
@[simp] theorem eOwnIx_f {i : Nat} {e : XE} {s : List Sl} : (eOwnIx i e).f s = ((olS s i).bind fun ds => (e.f s).bind fun z => (asI z).bind fun n => of (atI ds n)) := Eq.trans rfl rfl
@[simp] theorem sGive_f {i : Nat} {a : XS} {s : List Sl} : (sGive i a).f s = ((olS s i).bind fun ds => a.f (s.set i (.sh (.lst ds)))) := Eq.trans rfl rfl
@[simp] theorem sPutT_f {i : Nat} {e : XA} {a : XE} {s : List Sl} : (sPutT i e a).f s = ((a.f s).bind fun d => (otS s i).bind fun kvs => (e.f s).bind fun ds => (of (keysOf ds)).bind fun k => fit ds.length (fit (kvs.length + 1) (.ok (.nx (s.set i (.ot (putKV kvs k d))))))) := Eq.trans rfl rfl
@[simp] theorem eGetT_f {i : Nat} {e : XA} {s : List Sl} : (eGetT i e).f s = ((otS s i).bind fun kvs => (e.f s).bind fun ds => (of (keysOf ds)).bind fun k => fit ds.length (of (getKV kvs k))) := Eq.trans rfl rfl
@[simp] theorem sUnp_f {a : XE} {g : XG} {s : List Sl} : (sUnp a g).f s = ((a.f s).bind fun d => (g.f d s).calm.bind fun s' => .ok (.nx s')) := Eq.trans rfl rfl
@[simp] theorem sRaise_f {x : Str} {s : List Sl} : (sRaise x).f s = (.er ⟨x, []⟩) := Eq.trans rfl rfl
@[simp] theorem eCaught_f {cs : List Str} {a : XE} {s : List Sl} : (eCaught cs a).f s = (caughtR cs (a.f (s.map Sl.hide))) := Eq.trans rfl rfl
@[simp] theorem e_f {a : XF} {s : List Sl} : (a.e).f s = (a.f s).bind asL := Eq.trans rfl rfl
@[simp] theorem forF_nil {g : D → List Sl → Res (List Sl)} {b : List Sl → Res Out} {s : List Sl} : forF g b [] s = .ok (.nx s) := Eq.trans rfl rfl
theorem forF_cons {g : D → List Sl → Res (List Sl)} {b : List Sl → Res Out} {d : D} {ds : List D} {s : List Sl} : forF g b (d :: ds) s = (g d s).calm.bind fun s1 => (b s1).bind fun o => turnS o (forF g b ds) := rfl
@[simp] theorem lcF_nil {g c e s} : lcF g c e s [] = .ok [] := Eq.trans rfl rfl
theorem lcF_cons {g c e s d ds} : lcF g c e s (d :: ds) = (g d s).bind fun s1 => (c s1).bind fun b => if b = true then (e s1).bind fun z => (lcF g c e s ds).bind fun zs => .ok (z :: zs) else lcF g c e s ds := rfl
/-- each item gives one, if it is kept -/
theorem lcF_map {g : D → List Sl → Res (List Sl)} {c : List Sl → Res Bool} {e : List Sl → Res D} {s : List Sl} (p : D → Bool) (f : D → D) : ∀ (ds : List D), (∀ d ∈ ds, (g d s).bind (fun s1 => (c s1).bind fun b => if b = true then (e s1).bind fun z => .ok (some z) else .ok none) = .ok (if p d = true then some (f d) else none)) → lcF g c e s ds = .ok ((ds.filter p).map f)
  | [], _ => rfl
  | d :: ds, h => by
    have h1 := h d List.mem_cons_self
    have ih := lcF_map (g := g) (c := c) (e := e) (s := s) p f ds fun x hx => h x (List.mem_cons_of_mem _ hx)
    rw [lcF_cons, ih]
    cases q : g d s with
    | no => rw [q] at h1; cases h1
    | er x => rw [q] at h1; cases h1
    | ok s1 =>
      rw [q] at h1
      have h1 : ((c s1).bind fun b => if b = true then (e s1).bind fun z => Res.ok (some z) else .ok none) = .ok (if p d = true then some (f d) else none) := h1
      show ((c s1).bind fun b => if b = true then (e s1).bind fun z => (Res.ok ((ds.filter p).map f)).bind fun zs => .ok (z :: zs) else .ok ((ds.filter p).map f)) = _
      cases q1 : c s1 with
      | no => rw [q1] at h1; cases h1
      | er x => rw [q1] at h1; cases h1
      | ok b =>
        rw [q1] at h1
        cases b with
        | true =>
          have h1 : ((e s1).bind fun z => Res.ok (some z)) = .ok (if p d = true then some (f d) else none) := h1
          show ((e s1).bind fun z => Res.ok (z :: (ds.filter p).map f)) = _
          cases q2 : e s1 with
          | no => rw [q2] at h1; cases h1
          | er x => rw [q2] at h1; cases h1
          | ok z =>
            rw [q2] at h1
            have h1 : Res.ok (some z) = .ok (if p d = true then some (f d) else none) := h1
            by_cases hp : p d = true
            · rw [if_pos hp] at h1
              cases h1
              rw [List.filter_cons_of_pos hp]; rfl
            · rw [if_neg hp] at h1; cases h1
        | false =>
          have h1 : Res.ok (none : Option D) = .ok (if p d = true then some (f d) else none) := h1
          by_cases hp : p d = true
          · rw [if_pos hp] at h1; cases h1
          · rw [List.filter_cons_of_neg hp]; rfl
/-- .. all are kept -/
theorem lcF_all {g : D → List Sl → Res (List Sl)} {e : List Sl → Res D} {s : List Sl} (f : D → D) (ds : List D) (h : ∀ d ∈ ds, (g d s).bind e = .ok (f d)) : lcF g (fun _ => .ok true) e s ds = .ok (ds.map f) := by
  rw [lcF_map (fun _ => true) f ds fun d hd => ?_, List.filter_eq_self.mpr fun _ _ => rfl]
  have := h d hd
  cases q : g d s with
  | no => rw [q] at this; cases this
  | er x => rw [q] at this; cases this
  | ok s1 =>
    rw [q] at this
    have this : e s1 = .ok (f d) := this
    show ((e s1).bind fun z => Res.ok (some z)) = _
    rw [this]; rfl
/-- a loop that carries a state of its own: each turn goes on with the state behind it -/
theorem forF_fold {α : Type} {g : D → List Sl → Res (List Sl)} {b : List Sl → Res Out} (en : α → List Sl) (st : α → D → α) : ∀ (ds : List D) (a : α), (∀ a, ∀ d ∈ ds, (g d (en a)).calm.bind (fun s1 => (b s1).bind fun o => turnS o fun s => .ok (.nx s)) = .ok (.nx (en (st a d)))) → (∀ a, ∀ d ∈ ds, ∀ s1, g d (en a) = .ok s1 → (∃ s, b s1 = .ok (.nx s)) ∨ ∃ s, b s1 = .ok (.ct s)) → forF g b ds (en a) = .ok (.nx (en (ds.foldl st a)))
  | [], a, _, _ => rfl
  | d :: ds, a, h, h2 => by
    have h1 := h a d List.mem_cons_self
    have h3 := h2 a d List.mem_cons_self
    have ih := forF_fold en st ds (st a d) (fun a x hx => h a x (List.mem_cons_of_mem _ hx)) (fun a x hx => h2 a x (List.mem_cons_of_mem _ hx))
    rw [forF_cons]
    cases q : g d (en a) with
    | no => rw [q] at h1; cases h1
    | er x => rw [q] at h1; cases h1
    | ok s1 =>
      rw [q] at h1
      show ((b s1).bind fun o => turnS o (forF g b ds)) = _
      have h1 : ((b s1).bind fun o => turnS o fun s => Res.ok (.nx s)) = .ok (.nx (en (st a d))) := h1
      rcases h3 s1 q with ⟨s, e⟩ | ⟨s, e⟩
      · rw [e] at h1 ⊢
        have h1 : Res.ok (Out.nx s) = .ok (.nx (en (st a d))) := h1
        cases h1
        exact ih
      · rw [e] at h1 ⊢
        have h1 : Res.ok (Out.nx s) = .ok (.nx (en (st a d))) := h1
        cases h1
        exact ih
/-- a loop that carries a state, or returns -/
def runL {α : Type} (st : α → D → α ⊕ D) : List D → α → α ⊕ D
  | [], a => .inl a
  | d :: ds, a => match st a d with
    | .inl a' => runL st ds a'
    | .inr z => .inr z
def endL {α : Type} (en : α → List Sl) : α ⊕ D → Out
  | .inl a => .nx (en a)
  | .inr z => .rt z
@[simp] theorem endL_inl {α : Type} {en : α → List Sl} {a : α} : endL en (.inl a) = .nx (en a) := Eq.trans rfl rfl
@[simp] theorem endL_inr {α : Type} {en : α → List Sl} {a : D} : endL en (.inr a) = .rt a := Eq.trans rfl rfl
theorem forF_gen {α : Type} {g : D → List Sl → Res (List Sl)} {b : List Sl → Res Out} (en : α → List Sl) (st : α → D → α ⊕ D) : ∀ (ds : List D) (a : α), (∀ a, ∀ d ∈ ds, ∃ s1, g d (en a) = .ok s1 ∧ b s1 = .ok (endL en (st a d))) → forF g b ds (en a) = .ok (endL en (runL st ds a))
  | [], a, _ => rfl
  | d :: ds, a, h => by
    obtain ⟨s1, e1, e2⟩ := h a d List.mem_cons_self
    rw [forF_cons, e1]
    show ((b s1).bind fun o => turnS o (forF g b ds)) = _
    rw [e2]
    unfold runL
    cases q : st a d with
    | inl a' =>
      show forF g b ds (en a') = _
      exact forF_gen en st ds a' fun a x hx => h a x (List.mem_cons_of_mem _ hx)
    | inr z => rfl
end X
/-- a def that draws nothing keeps what its function tells -/
theorem xfn_I {X : XS} {N : List Str} {k : Nat} : ∀ ds R, ds.length = k → (XFn.mk (X.run N)).S.f ds R → (fnF N X.m).f ds R := fun _ _ _ h => X.fn h
theorem xfn_Ix {X : XS} {N : List Str} {k : Nat} : ∀ ds R ew, ds.length = k → (XFn.mk (X.run N)).Sx.f ds R ew → (fnFx N X.m).f ds R ew := fun _ _ _ _ h => X.fnx h
@[simp] theorem S_f {x : XFn} {ds : List D} {R : D → Prop} : x.S.f ds R = (x.F ds).wp R fun _ => False := Eq.trans rfl rfl
@[simp] theorem Sx_f {x : XFn} {ds : List D} {R : D → Prop} {ew : Ex → Prop} : x.Sx.f ds R ew = (x.F ds).wp R ew := Eq.trans rfl rfl
end DS
/-! DS27: more of texts; keywords of defs that raise; the end of a law whose defs hold lambdas. -/
namespace DS
open PySem PySem.Spec PyProof.Rows L2

/-! ### order of texts -/
theorem SemO.or' {K : PySem.W.Frag} {f f' : D → D → Option D} {r r' : R2} (h : SemO K f r) (h' : SemO K f' r') : SemO K (fun x y => (f x y).or (f' x y)) (fun x y H Q => r x y H Q ∨ r' x y H Q) := by
  intro c H v u x y z Q ho a b e k
  have e : (f x y).or (f' x y) = some z := e
  cases q : f x y with
  | some w => rw [q, Option.some_or] at e; cases e; exact .inl (h c H v u x y _ Q ho a b q k)
  | none => rw [q, Option.none_or] at e; exact .inr (h' c H v u x y z Q ho a b e k)
theorem SemC.or' {K : PySem.W.Frag} {f f' : List D → Option D} {r r' : List V → Hp → VK → Prop} (h : SemC K f r) (h' : SemC K f' r') : SemC K (fun x => (f x).or (f' x)) (fun x H Q => r x H Q ∨ r' x H Q) := by
  intro c H v x z Q ho a e k
  have e : (f x).or (f' x) = some z := e
  cases q : f x with
  | some w => rw [q, Option.some_or] at e; cases e; exact .inl (h c H v x _ Q ho a q k)
  | none => rw [q, Option.none_or] at e; exact .inr (h' c H v x z Q ho a e k)
theorem callR_or {X : Cx} {u : Value} {r r' : List V → Hp → VK → Prop} (h : CallR X u r) (h' : CallR X u r') : CallR X u (fun xs H Q => r xs H Q ∨ r' xs H Q) := by
  intro pins s σ H xs us Q I rs q
  rcases q with q | q
  · exact h pins s σ H xs us Q I rs q
  · exact h' pins s σ H xs us Q I rs q
def s2 (f : Str → Str → Bool) (x y : D) : Option D := match x with
  | .str a => match y with
    | .str b => some (.bl (f a b))
    | _ => none
  | _ => none
@[simp] theorem s2_str {f : Str → Str → Bool} {a b : Str} : s2 f (.str a) (.str b) = some (.bl (f a b)) := Eq.trans rfl rfl
theorem sem_s2 {K : PySem.W.Frag} {f : Str → Str → Bool} : SemO K (s2 f) (fun x y H Q => ∃ i j, x = .str i ∧ y = .str j ∧ Q (.bl (f i j)) H) := by
  intro c H v u x y z Q ho a b e k
  cases a with
  | str i hi => cases b with
    | str j hj => cases e; exact ⟨i, j, rfl, rfl, k _ H (Step.refl ho.inv) (.bl _)⟩
    | _ => cases e
  | _ => cases e
def ltE (x y : D) : Option D := (ltD x y).or (s2 (fun i j => decide (i.cps.toList < j.cps.toList)) x y)
def leE (x y : D) : Option D := (leD x y).or (s2 (fun i j => !decide (j.cps.toList < i.cps.toList)) x y)
def gtE (x y : D) : Option D := (gtD x y).or (s2 (fun i j => decide (j.cps.toList < i.cps.toList)) x y)
def geE (x y : D) : Option D := (geD x y).or (s2 (fun i j => !decide (i.cps.toList < j.cps.toList)) x y)
@[simp] theorem ltE_int {i j : Int} : ltE (.int i) (.int j) = some (.bl (decide (i < j))) := Eq.trans rfl rfl
@[simp] theorem leE_int {i j : Int} : leE (.int i) (.int j) = some (.bl (decide (i ≤ j))) := Eq.trans rfl rfl
@[simp] theorem gtE_int {i j : Int} : gtE (.int i) (.int j) = some (.bl (decide (j < i))) := Eq.trans rfl rfl
@[simp] theorem geE_int {i j : Int} : geE (.int i) (.int j) = some (.bl (decide (j ≤ i))) := Eq.trans rfl rfl
@[simp] theorem ltE_str {i j : Str} : ltE (.str i) (.str j) = some (.bl (decide (i.cps.toList < j.cps.toList))) := Eq.trans rfl rfl
@[simp] theorem leE_str {i j : Str} : leE (.str i) (.str j) = some (.bl (!decide (j.cps.toList < i.cps.toList))) := Eq.trans rfl rfl
@[simp] theorem gtE_str {i j : Str} : gtE (.str i) (.str j) = some (.bl (decide (j.cps.toList < i.cps.toList))) := Eq.trans rfl rfl
@[simp] theorem geE_str {i j : Str} : geE (.str i) (.str j) = some (.bl (!decide (i.cps.toList < j.cps.toList))) := Eq.trans rfl rfl
def rLtE : R2 := fun x y H Q => rI0 (fun i j => .bl (decide (i < j))) x y H Q ∨ ∃ i j, x = .str i ∧ y = .str j ∧ Q (.bl (decide (i.cps.toList < j.cps.toList))) H
theorem s_ltE {K : PySem.W.Frag} : SemO K ltE rLtE := s_lt.or' sem_s2
theorem op_ltE {X : Cx} : OpR X (compareOp .Lt) rLtE := op_lt.or op_lt_str
def rLeE : R2 := fun x y H Q => rI0 (fun i j => .bl (decide (i ≤ j))) x y H Q ∨ ∃ i j, x = .str i ∧ y = .str j ∧ Q (.bl (!decide (j.cps.toList < i.cps.toList))) H
theorem s_leE {K : PySem.W.Frag} : SemO K leE rLeE := s_le.or' sem_s2
theorem op_leE {X : Cx} : OpR X (compareOp .LtE) rLeE := op_le.or op_le_str
def rGtE : R2 := fun x y H Q => rI0 (fun i j => .bl (decide (j < i))) x y H Q ∨ ∃ i j, x = .str i ∧ y = .str j ∧ Q (.bl (decide (j.cps.toList < i.cps.toList))) H
theorem s_gtE {K : PySem.W.Frag} : SemO K gtE rGtE := s_gt.or' sem_s2
theorem op_gtE {X : Cx} : OpR X (compareOp .Gt) rGtE := op_gt.or op_gt_str
def rGeE : R2 := fun x y H Q => rI0 (fun i j => .bl (decide (j ≤ i))) x y H Q ∨ ∃ i j, x = .str i ∧ y = .str j ∧ Q (.bl (!decide (i.cps.toList < j.cps.toList))) H
theorem s_geE {K : PySem.W.Frag} : SemO K geE rGeE := s_ge.or' sem_s2
theorem op_geE {X : Cx} : OpR X (compareOp .GtE) rGeE := op_ge.or op_ge_str

/-! ### a text times a number -/
/-- so many times -/
def repS (x : Str) (n : Nat) : Str := ⟨(List.replicate n x.cps.toList).flatten.toArray⟩
theorem foldl_rep (c : Array Nat) : ∀ (n : Nat) (acc : Array Nat), ((List.replicate n c).foldl (· ++ ·) acc).toList = acc.toList ++ (List.replicate n c.toList).flatten
  | 0, acc => by simp
  | n + 1, acc => by
    rw [List.replicate_succ, List.foldl_cons, foldl_rep c n, List.replicate_succ, List.flatten_cons, Array.toList_append, List.append_assoc]
def mulS (x y : D) : Option D := match x with
  | .str a => match y with
    | .int n => if -(2 ^ 62) ≤ n ∧ n < 2 ^ 62 ∧ a.length * n.toNat ≤ sizeLine then some (.str (repS a n.toNat)) else none
    | _ => none
  | _ => none
def rMulS : R2 := fun x y H Q => ∃ (a : Str) (n : Int), x = .str a ∧ y = .int n ∧ -(2 ^ 62) ≤ n ∧ n < 2 ^ 62 ∧ a.length * n.toNat ≤ sizeLine ∧ Q (.str (repS a n.toNat)) H
theorem repS_len (a : Str) (n : Nat) : (repS a n).length = n * a.length := by
  show (List.replicate n a.cps.toList).flatten.toArray.size = n * a.cps.size
  rw [List.size_toArray, List.length_flatten, List.map_replicate, List.sum_replicate_nat, Array.length_toList]
theorem op_mulS {X : Cx} : OpR X (binaryOp .Mult) rMulS := by
  intro pins s σ H x y v u Q I rx ry h
  obtain ⟨a, n, rfl, rfl, n1, n2, hl, q⟩ := h
  obtain ⟨t, rfl⟩ := rx
  obtain ⟨t2, rfl⟩ := ry
  have sz : sizeLine = 16777216 := sizeLine_eq
  refine PySem.P.mul_str (by rw [decide_eq_false (by omega), decide_eq_false (by omega)]; rfl) (fun h1 h2 => ?_) (fun h1 h2 => ?_) ?_
  · have : (a.length : Int) * n ≤ 16777216 := by
      have e : ((a.length * n.toNat : Nat) : Int) = (a.length : Int) * n := by rw [Int.natCast_mul, Int.toNat_of_nonneg (by omega)]
      rw [← e]; omega
    have h3 : (a.length : Int) ≤ (2 ^ 63 - 1) / n := Int.le_ediv_of_mul_le (by omega) (by omega)
    omega
  · exact decide_eq_false (by omega)
  · by_cases h1 : n < 1
    · rw [if_pos h1]
      have e : n.toNat = 0 := by omega
      rw [e] at q
      exact ⟨by decide, .str _, H, I.tok _, ⟨_, rfl⟩, q⟩
    · rw [if_neg h1]
      split
      · rename_i h2
        have e : repS a n.toNat = a := by
          have hc : n = 1 ∨ a.length = 0 := by simpa [Bool.or_eq_true, beq_iff_eq] using h2
          rcases hc with rfl | hc
          · show (⟨(List.replicate 1 a.cps.toList).flatten.toArray⟩ : Str) = a
            simp
          · have ha : a.cps = #[] := Array.eq_empty_of_size_eq_zero hc
            show (⟨(List.replicate n.toNat a.cps.toList).flatten.toArray⟩ : Str) = a
            have : a = ⟨#[]⟩ := by cases a; simpa using ha
            rw [this]
            simp
        rw [e] at q
        exact ⟨.str _, H, I, ⟨t, rfl⟩, q⟩
      · have e : (⟨(List.replicate n.toNat a.cps).foldl (· ++ ·) #[]⟩ : Str) = repS a n.toNat := by
          unfold repS
          congr 1
          apply Array.toList_inj.mp
          rw [foldl_rep]; simp
        refine ⟨?_, .str _, H, I.tok _, ⟨_, rfl⟩, by rw [e]; exact q⟩
        rw [e, repS_len, Nat.mul_comm]
        exact hl
theorem s_mulS {K : PySem.W.Frag} : SemO K mulS rMulS := by
  intro c H v u x y z Q ho a b e k
  cases a with
  | str i hi => cases b with
    | int j =>
      have e : (if -(2 ^ 62) ≤ j ∧ j < 2 ^ 62 ∧ i.length * j.toNat ≤ sizeLine then some (D.str (repS i j.toNat)) else none) = some z := e
      split at e
      · rename_i h
        cases e
        refine ⟨i, j, rfl, rfl, h.1, h.2.1, h.2.2, k _ H (Step.refl ho.inv) (.str _ ⟨by rw [repS_len, Nat.mul_comm]; exact h.2.2, strOk_iff.mpr fun c hc => ?_⟩)⟩
        have hc : c ∈ (List.replicate j.toNat i.cps.toList).flatten := by simpa [repS] using hc
        rw [List.mem_flatten] at hc
        obtain ⟨l, hl, hc⟩ := hc
        rw [List.eq_of_mem_replicate hl] at hc
        exact strOk_iff.mp hi.2 c hc
      · cases e
    | _ => cases e
  | _ => cases e
def mulE (x y : D) : Option D := (mulD x y).or (mulS x y)
def rMulE (K : PySem.W.Frag) : R2 := fun x y H Q => rMulA K x y H Q ∨ rMulS x y H Q
theorem s_mulE {K : PySem.W.Frag} : SemO K mulE (rMulE K) := s_mul.or' s_mulS
theorem op_mulE {X : Cx} : OpR X (binaryOp .Mult) (rMulE X.K) := op_mulA.or op_mulS

/-! ### x[::-1] -/
def revD : D → Option D
  | .tup ds => some (.tup ds.reverse)
  | .str z => some (.str ⟨z.cps.toList.reverse.toArray⟩)
  | _ => none
def tRevA (K : PySem.W.Frag) (te : TE) : TE := fun s H Q => te s H fun x H1 => (∃ a xs, x = .ref a ∧ SqT K H1 a xs ∧ ∀ p, H1 p = none → Q (.ref p) (upd H1 p (.tup xs.reverse))) ∨ ∃ z : Str, x = .str z ∧ SOk z ∧ Q (.str ⟨z.cps.toList.reverse.toArray⟩) H1
theorem rev_list (x : Str) : (List.range x.length).map (fun k => x.cps.getD (x.length - 1 - k) 0) = x.cps.toList.reverse := by
  apply List.ext_getElem
  · rw [List.length_map, List.length_range, List.length_reverse, Array.length_toList]; rfl
  · intro i h1 h2
    rw [List.length_map, List.length_range] at h1
    rw [List.getElem_map, List.getElem_range, List.getElem_reverse]
    have h3 : x.length - 1 - i < x.cps.size := by show x.cps.size - 1 - i < x.cps.size; have : i < x.cps.size := h1; omega
    simp only [Array.getD, h3, dif_pos, Array.length_toList, Array.getElem_toList]
    rfl
theorem pe_revA {X : Cx} {e : Expr} {te : TE} {j : Nat} {p0 p1 p2 pos : Pos} (he : PE X e te) : PE X (.Subscript e (.Slice none none (some (.UnaryOp .USub (.Constant (.int 1) j p0) p1)) p2) pos) (tRevA X.K te) := by
  refine ⟨fun pins s σ H Q I h => ?_⟩
  refine Subscript_ (thn (he.run pins s σ H _ I h) fun v s1 ⟨x, H1, I1, r1, q1⟩ => ?_)
  have hst : PE X (.UnaryOp .USub (.Constant (.int 1) j p0) p1) (tUn (rU fun i => .int (-i)) (tC (.int 1))) := pe_un un_neg pe_int
  refine wpAny_Slice ?_
  rw [evalPart_none]
  refine wpAny_pure (wpAny_pure ?_)
  rw [evalPart_some]
  refine thn (hst.run pins s1 σ H1 (fun z H2 => z = .int (-1) ∧ H2 = H1) I1 ⟨1, rfl, rfl, rfl⟩) fun st s3 hz => ?_
  obtain ⟨z, H3, I3, rz, rfl, rfl⟩ := hz
  obtain ⟨tk, rfl⟩ := rz
  rcases q1 with ⟨a, xs, rfl, hx, q⟩ | ⟨z, rfl, hz, q⟩
  · cases r1
    have I4 : Inv X pins σ H3 { s3 with heap := s3.heap.push { cls := .type "slice", data := .fields #[.none, .none, .int (-1) tk] } } := I3.kept (t' := s3.toks) fun b ob q => Heap.get?_push_of_some _ q
    obtain ⟨its, r, ht, hz⟩ := I4.tuple hx
    have hlen : its.toArray.size = xs.length := by rw [List.size_toArray]; exact r.length.symm
    refine tail_any (ops := [.ref a, .ref s3.heap.objs.size]) (T := "tuple") ht.typeIs PyProof.Rows.slot_tuple_getitem.lookup ?_ (by with_unfolding_all rfl)
    refine getItem_tuple_rev (sl := s3.heap.objs.size) (tk := tk) ht ⟨_, Heap.get?_push_size _ rfl, rfl, rfl⟩ ?_ (by rw [hlen]; exact hz)
    refine ⟨.ref _, _, I4.laid (t' := s3.toks) (o := .tup xs.reverse) (fun b ob q => Heap.get?_push_of_some _ q) (Nat.le_refl _) ?_, rfl, q _ (I4.hok.fresh (Nat.le_refl _))⟩
    exact ⟨by rw [List.length_reverse]; exact hz, _, vals_reverse r, IsTup.new _ _⟩
  · obtain ⟨t, rfl⟩ := r1
    have I4 : Inv X pins σ H3 { s3 with heap := s3.heap.push { cls := .type "slice", data := .fields #[.none, .none, .int (-1) tk] } } := I3.kept (t' := s3.toks) fun b ob q => Heap.get?_push_of_some _ q
    refine tail_any (ops := [.str z t, .ref s3.heap.objs.size]) (T := "str") (typeIs_str _ _ _) PySem.F.slot_str_getitem.lookup ?_ (by with_unfolding_all rfl)
    refine wpAny_getItem_str_slice (l := none) (u := none) (st := some (-1, tk)) ⟨_, Heap.get?_push_size _ rfl, rfl, rfl⟩ rfl ?_
    have e : (⟨((slicePicked z none none (some (-1, tk))).filterMap (z.cps[·]?)).toArray⟩ : Str) = ⟨z.cps.toList.reverse.toArray⟩ := by
      congr 2
      have e1 : slicePicked z none none (some (-1, tk)) = (List.range z.length).map fun k => z.length - 1 - k := picked_rev z.length
      rw [e1, filterMap_get, List.map_map, ← rev_list]
      · rfl
      · intro i hi
        obtain ⟨k, hk, rfl⟩ := List.mem_map.mp hi
        have hk' : k < z.length := List.mem_range.mp hk
        show z.length - 1 - k < z.length
        omega
    unfold sliceMade
    rw [if_neg (by simp), e]
    refine ⟨?_, .str _, H3, I4.tok _, ⟨_, rfl⟩, q⟩
    show z.cps.toList.reverse.toArray.size ≤ sizeLine
    rw [List.size_toArray, List.length_reverse, Array.length_toList]
    exact hz.1
theorem sok_rev {z : Str} (h : SOk z) : SOk ⟨z.cps.toList.reverse.toArray⟩ := sok_sub h (by show z.cps.toList.reverse.toArray.size ≤ z.cps.size; simp) fun c hc => by simpa using hc
theorem de_revA {g : G} {e : Expr} {m : WE} {j : Nat} {p0 p1 p2 pos : Pos} (h : DE g e m) : DE g (.Subscript e (.Slice none none (some (.UnaryOp .USub (.Constant (.int 1) j p0) p1)) p2) pos) (eUn revD m) := by
  obtain ⟨t, p⟩ := h
  refine ⟨fun E => tRevA g.K (t E), fun y ok => ⟨pe_revA (p y ok).1, ?_⟩⟩
  intro B c0 c ad H0 s H r R Q cf bd hm k
  refine (p y ok).2 B c0 c ad H0 s H r _ _ cf bd hm fun d v H1 hR s1 a1 => ?_
  obtain ⟨z, e, hR⟩ := hR
  have ho := (cf.step s1).ho
  cases a1 with
  | tup h l r1 => cases e; exact .inl ⟨_, _, rfl, h.sq, fun q hq => k _ _ _ hR (s1.trans (ho.new (n := 0) hq)) (ho.tup hq (by rw [List.length_reverse]; exact l) r1.reverse)⟩
  | str z hz => cases e; exact .inr ⟨_, rfl, hz, k _ _ _ hR s1 (.str _ (sok_rev hz))⟩
  | _ => cases e

/-! ### s.index(t), int(s) -/
def indexD (x y : D) : Option D := match x with
  | .str a => match y with
    | .str b => (Txt.index0 a b).map fun k => .int (k : Nat)
    | _ => none
  | _ => none
def rIndexF : V → List V → Hp → VK → Prop := fun x xs H Q => ∃ (a b : Str) (k : Nat), x = .str a ∧ xs = [.str b] ∧ Txt.index0 a b = some k ∧ Q (.int (k : Nat)) H
theorem mt_indexF {X : Cx} : MtR X "str.index" rIndexF := by
  intro pins s σ H x xs v us Q I rx rs h
  obtain ⟨a, b, k0, rfl, rfl, hk, w⟩ := h
  obtain ⟨t, rfl⟩ := rx
  cases rs with
  | cons r1 rs =>
    cases rs
    obtain ⟨u, rfl⟩ := r1
    cases q : Builtin.Str.occurrences a b 0 a.length 1 with
    | nil => unfold Txt.index0 at hk; rw [q] at hk; cases hk
    | cons k rest =>
      have e : k = k0 := by unfold Txt.index0 at hk; rw [q] at hk; exact Option.some.inj hk
      subst e
      exact call_gives PySem.F.slot_str_index (typeIs_str _ _ _) PySem.F.entry_str_index (PySem.F.args_str_index_2 _ _) (gives_str_index a b t u k rest q) ⟨.int (k : Nat), H, I.tok _, ⟨_, rfl⟩, w⟩
theorem s_index {K : PySem.W.Frag} : SemM K indexD rIndexF := by
  intro c H v u x y z Q ho a b e k
  cases a with
  | str s hs =>
    cases b with
    | str t ht =>
      have e : (Txt.index0 s t).map (fun k => D.int (k : Nat)) = some z := e
      cases q : Txt.index0 s t with
      | none => rw [q] at e; cases e
      | some n => rw [q] at e; cases e; exact ⟨s, t, n, rfl, rfl, q, k _ H (Step.refl ho.inv) (.int _)⟩
    | _ => cases e
  | _ => cases e
theorem de_index {g : G} {o e : Expr} {mo me : WE} {apos pos : Pos} (ho : DE g o mo) (he : DE g e me) (hs : ∀ env, starEach [e] env = [(false, eval e env)] := by intro _; rfl) (hb : ∀ env, attributeBase o "index" env (eval o env) = eval o env := by intro _; rfl) (hl : (apos.endLine == pos.line) = true := by rfl) :
    DE g (.Call (.Attribute o "index" apos) [e] [] pos) (eM1 indexD mo me) := by
  obtain ⟨ta, pa⟩ := ho
  obtain ⟨tb, pb⟩ := he
  exact ⟨fun E => tM1 _ (ta E) (tb E), fun y ok => ⟨pe_m1 PySem.F.slot_str_index PySem.F.type_str_index mt_indexF (pa y ok).1 (pb y ok).1 (hs _) (hb _) hl, sem_m1 s_index (pa y ok).2 (pb y ok).2⟩⟩
def intSD : List D → Option D
  | [.str a] => if a.length ≤ 640 then (PySem.intText? a).map .int else none
  | _ => none
def intE (x : List D) : Option D := (intD x).or (intSD x)
theorem s_intS {K : PySem.W.Frag} : SemC K intSD (fun xs H Q => ∃ a n, xs = [.str a] ∧ PySem.intText? a = some n ∧ a.length ≤ 640 ∧ Q (.int n) H) := by
  intro c H vs ds z Q ho a e k
  match ds, a, e with
  | [.str x], .cons (.str _ _) .nil, e =>
    have e : (if x.length ≤ 640 then (PySem.intText? x).map D.int else none) = some z := e
    split at e
    · rename_i h
      cases q : PySem.intText? x with
      | none => rw [q] at e; cases e
      | some n => rw [q] at e; cases e; exact ⟨x, n, rfl, q, h, k _ H (Step.refl ho.inv) (.int _)⟩
    · cases e
def rIntE : List V → Hp → VK → Prop := fun xs H Q => rIntI xs H Q ∨ ∃ a n, xs = [.str a] ∧ PySem.intText? a = some n ∧ a.length ≤ 640 ∧ Q (.int n) H
theorem s_intE {K : PySem.W.Frag} : SemC K intE rIntE := s_int.or' s_intS
theorem call_intE {X : Cx} : CallR X (.type "int") rIntE := callR_or call_int1 call_int_str
@[simp] theorem intE_int {i : Int} : intE [.int i] = some (.int i) := Eq.trans rfl rfl

/-! ### a def that raises, called with keywords alone -/
structure FnKX (P : Program) (w : World) (K : PySem.W.Frag) (mg : Str → Option Value) (base : Heap) (k : Nat) (x : Str) (ks : List Str) (pm : List Nat) (n : Nat) (F : WFx) (T : List (Addr × Str) := []) : Prop where
  ex : ∃ f fd ps, ps.length = n ∧ FnOk P w K mg base (L2.CX P w) k f fd ps (spX K n F T) ∧ mg x = some (.ref f) ∧ PySem.W.keepIn K (.ref f) = true ∧
    ∀ (s : Shared) (ws : List Value), K.In s.heap → ws.length = ks.length → (picks pm ws).length = ps.length → BindsTo s fd ⟨[], ks.zip ws⟩ (ps.zip (picks pm ws))
theorem FnKX.imp {P : Program} {w : World} {K : PySem.W.Frag} {mg : Str → Option Value} {base : Heap} {k : Nat} {x : Str} {ks : List Str} {pm : List Nat} {n : Nat} {F F' : WFx} {T : List (Addr × Str)} (h : FnKX P w K mg base k x ks pm n F T) (hn : F.n ≤ F'.n) (hi : ∀ ds R ew, ds.length = n → F'.f ds R ew → F.f ds R ew) : FnKX P w K mg base k x ks pm n F' T := by
  obtain ⟨f, fd, ps, l, F1, r⟩ := h.ex
  exact ⟨⟨f, fd, ps, l, F1.imp fun vs H Q E ⟨c, ds, R, ew, h1, h2, h3, hb, h4, h5, h6⟩ => ⟨c, ds, R, ew, h1, h2, h3, ⟨by have := hb.1; omega, hb.2⟩, hi ds R ew h3 h4, fun d v H' q st => h5 d v H' q (st.mono hn), fun x hx dd H' st => h6 x hx dd H' (st.mono hn)⟩, r⟩⟩
theorem fnX_ok {P : Program} {w : World} {K : PySem.W.Frag} {mg : Str → Option Value} {base : Heap} {x : Str} {st : Stmt} {f : Addr} {fd : FuncData} {N ps : List Str} {m : WS} {k : Nat} {TB : List (Addr × Str)} (F : L2.Fun K x x st f fd) (S : FnScope N ps (defScope st)) (hp : ps.length ≤ N.length) (hb : DSs (gOf P w K mg base k N st true TB) (defBody st) m) :
    FnOk P w K mg base (L2.CX P w) (k + 1) f fd ps (spX K ps.length (fnFx N m) TB) := by
  obtain ⟨t, p⟩ := hb
  refine F.okX S (fun vs H Q E ⟨c, ds, R, ew, _, a, l, _⟩ => a.length.trans l) (fun cdv A outer s H vs Q E hr h => ?_)
  obtain ⟨c, ds, R, ew, ho, a, l, bd, hF, k1, k2⟩ := h
  have tk : L2.Takes (cxOf (L2.CX P w) P w K mg base N x (defScope st) f cdv A outer s H E) (fun cls d _ H => E cls d H) := takes_of rfl rfl rfl rfl
  have ok : (gOf P w K mg base k N st true TB).Ok { A := A.deeper (envOfC x (defScope st) s.heap.objs.size f cdv), s0 := s, H0 := H, env := envOfC x (defScope st) s.heap.objs.size f cdv, outer := outer, stack := envOfC x (defScope st) s.heap.objs.size f cdv :: outer, ex := [], pn := [], xe := (cxOf (L2.CX P w) P w K mg base N x (defScope st) f cdv A outer s H E).xe, E := ⟨E, TB⟩ } :=
    ⟨rfl, hr, S.nd, passes_of (X := cxOf (L2.CX P w) P w K mg base N x (defScope st) f cdv A outer s H E) (K := fun e s'' => L2.CX P w outer H s E e s'') (E₁ := fun e' s'' => L2.CX P w outer H s E e' s'') rfl, fun _ => ⟨passes_call tk (fun _ _ _ _ h => h), tk⟩, rfl, fun _ h => (by cases h), fun z => Bool.noConfusion z⟩
  refine ⟨t ⟨E, TB⟩, (p _ ok).1, ?_⟩
  refine (p _ ok).2 (trn c.sd H + m.n) c c (fun _ => 0) H (start N vs) H ⟨startE N ds, ew⟩ _ _ (start_cf (E := ⟨E, TB⟩) ho bd.2 a (by omega) bd.1 fun x hx dd H' st le xa => k2 x hx dd H' ⟨st.1, st.2, le⟩ xa) (Nat.le_refl _) hF ?_
  exact ⟨fun c' ad' s' H' r' _ le hR cf => k1 .non .non H' hR ⟨cf.st.1, cf.st.2, by rw [cf.sd] at le; exact le⟩ .non, fun _ _ _ _ _ _ _ z => z.elim, fun _ _ _ _ _ _ _ z => z.elim, fun d v H' hR s1 le a1 => k1 d v H' hR ⟨s1.1, s1.2, le⟩ a1⟩
theorem fnKX_of {P : Program} {w : World} {K : PySem.W.Frag} {mg : Str → Option Value} {base : Heap} {k : Nat} {x : Str} {st : Stmt} {N ps ks : List Str} {pm : List Nat} {m : WS} {TB : List (Addr × Str)} (F : Have K mg x st) (S : FnScope N ps (defScope st)) (hp : ps.length ≤ N.length) (hbd : BindsKW st x ps ks pm)
    (hb : DSs (gOf P w K mg base k N st true TB) (defBody st) m) : FnKX P w K mg base (k + 1) x ks pm ps.length (fnFx N m) TB := by
  obtain ⟨f, fd, hm, F⟩ := F.ex
  refine ⟨⟨f, fd, ps, rfl, fnX_ok F S hp hb, hm, F.kp, fun s ws _ hw _ => ?_⟩⟩
  obtain ⟨oc, od, kV, doc, pmv, an, cdv, ct, osl, rfl, lk, hcd⟩ := F.ex
  exact .of_eq (hbd kV doc pmv an cdv ct ws hw)
def tCallK0X (sp : Sp) (pm : List Nat) (n : Nat) (E : XK) (tk : TA) : TE := fun σ H Q => tk σ H fun zs H2 => zs.length = n ∧ sp (picks pm zs) H2 Q E
theorem pe_callK0X {X : Cx} {k : Nat} {f : Addr} {fd : FuncData} {ps ks : List Str} {pm : List Nat} {sp : Sp} {x : Str} {p pos : Pos} {kws : List Keyword} {tk : TA} {CX : CXT} {E : XK} (F : FnOk X.prog X.w X.K X.mg X.base CX k f fd ps sp) (hr : Room k X.A) (hg : Gl X x) (hm : X.mg x = some (.ref f)) (hk : PySem.W.keepIn X.K (.ref f) = true)
    (hb : ∀ (s : Shared) (ws : List Value), X.K.In s.heap → ws.length = ks.length → (picks pm ws).length = ps.length → BindsTo s fd ⟨[], ks.zip ws⟩ (ps.zip (picks pm ws))) (hx : Passes CX X E)
    (hkw : PK X kws tk) (hall : (backToKw pos (keywordEach kws X.env)).all (·.1.isSome) = true) (hks : (backToKw pos (keywordEach kws X.env)).filterMap (·.1) = ks)
    (hdb : (x == ("__debug__" : Str)) = false) (hpl : ((backTo pos (starEach [] X.env)).any (·.1) || (backToKw pos (keywordEach kws X.env)).any (·.1.isNone)) = false) :
    PE X (.Call (.Name x p) [] kws pos) (tCallK0X sp pm ks.length E tk) := by
  refine ⟨fun pins s σ H Q I h => ?_⟩
  refine wpAny_Call_Name_kw (ld_glob I hg hm ?_ hdb)
  refine PySem.W.callWith_KW0 (h₀ := X.base) I.ok.mod.kin hk hall (thn (hkw.run pos pins s σ H _ I h) fun ws s2 ⟨zs, H2, I2, rz, hn, q2⟩ => ⟨I2.kIn, ?_⟩) hpl
  rw [hks]
  have r2 := picks_vals rz pm
  have hl : (picks pm ws).length = ps.length := by rw [← r2.length]; exact F.len _ _ _ _ q2
  have hw : ws.length = ks.length := by rw [← rz.length]; exact hn
  refine wpAny_call (codeAny_mono (F.run X.A X.stack s2 H2 ⟨[], ks.zip ws⟩ (picks pm ws) (picks pm zs) Q E hr I2.env0 (hb s2 ws I2.kIn hw hl) r2 q2) fun r s' hq => ?_)
  cases r with
  | error e => exact hx _ _ _ _ _ _ I2 hq
  | ok fl =>
    cases fl with
    | ret u => exact I2.after hq
    | next => exact False.elim hq
    | brk => exact False.elim hq
    | cont => exact False.elim hq
def eCallKX (pm : List Nat) (F : WFx) (a : WA) : WE := ⟨fun r R => a r fun ds => F.f (picks pm ds) R r.ew, a.n + F.n⟩
def eCallKN (pm : List Nat) (F : WFx) (a : WA) : WE := ⟨fun r R => a r fun ds => F.f (picks pm ds) R fun _ => False, a.n + F.n⟩
theorem picks_len {α : Type} {xs : List α} : ∀ {l : List Nat}, (∀ i ∈ l, i < xs.length) → (picks l xs).length = l.length
  | [], _ => rfl
  | i :: l, h => by
    unfold picks
    rw [List.filterMap_cons, List.getElem?_eq_getElem (h i List.mem_cons_self)]
    show (picks l xs).length + 1 = _
    rw [picks_len fun j hj => h j (List.mem_cons_of_mem _ hj), List.length_cons]
section
variable {g : G} {x : Str} {j n : Nat} {ks : List Str} {pm : List Nat} {F : WFx} {kws : List Keyword} {ma : WA} {p pos : Pos}
theorem de_callKX (hf : FnKX g.P g.w g.K g.mg g.base j x ks pm n F g.T) (ha : DK g kws ma) (hr : g.rs = true := by rfl) (hj : j ≤ g.k := by exact Nat.le_of_ble_eq_true rfl) (hg : g.sc.names.lookup x = some .globalImplicit := by rfl)
    (hl : kws.length = ks.length := by rfl) (hn : pm.length = n := by rfl) (hlt : ∀ i ∈ pm, i < ks.length := by decide)
    (hall : ∀ env, (backToKw pos (keywordEach kws env)).all (·.1.isSome) = true := by intro _; rfl) (hks : ∀ env, (backToKw pos (keywordEach kws env)).filterMap (·.1) = ks := by intro _; rfl)
    (hd : (x == ("__debug__" : Str)) = false := by decide) (hpl : ∀ env, ((backTo pos (starEach [] env)).any (·.1) || (backToKw pos (keywordEach kws env)).any (·.1.isNone)) = false := by intro _; rfl) : DE g (.Call (.Name x p) [] kws pos) (eCallKX pm F ma) := by
  obtain ⟨t, q⟩ := ha
  obtain ⟨f, fd, ps, l, F1, hm, hk, hb⟩ := hf.ex
  refine ⟨fun E => tCallK0X (spX g.K n F g.T) pm ks.length E.e (t E), fun y ok => ⟨pe_callK0X (X := g.cx y) F1 (ok.room.mono hj) (ok.gl hg) hm hk hb (ok.tk hr).1 (q y ok).1 (hall _) (hks _) hd (hpl _), ?_⟩⟩
  intro B c0 c ad H0 s H r R Q cf bd hm2 k
  refine (q y ok).2 B c0 c ad H0 s H r _ _ cf (bd1 bd) hm2 fun ds vs H1 hx hn' s1 a1 => ?_
  have cf1 := cf.step s1
  have hvl : vs.length = ks.length := by rw [a1.length, hn', hl]
  refine ⟨hvl, c, picks pm ds, R, r.ew, cf1.ho, picks_at a1 pm, ?_, ⟨Nat.le_trans (bd2 bd s1.3) cf.top, cf.sT.trans (cf.tT.trans ok.tb)⟩, hx, fun d v H' hR s2 a2 => k d v H' hR (s1.trans s2) a2, fun z hz dd H' s2 xa => ?_⟩
  · rw [picks_len fun i hi => by rw [hn', hl]; exact hlt i hi, hn]
  · have cf2 := cf1.step s2
    refine cf.ex z hz dd H' cf2.st ?_ (xa.back cf.sd.symm cf.le)
    have h1 := s1.3
    have h2 := s2.3
    have bd' : trn c.sd H + (ma.n + F.n) ≤ B := bd
    rw [← cf.sd]
    omega
theorem de_callKN (hf : FnKX g.P g.w g.K g.mg g.base j x ks pm n F g.T) (ha : DK g kws ma) (hj : j ≤ g.k := by exact Nat.le_of_ble_eq_true rfl) (hg : g.sc.names.lookup x = some .globalImplicit := by rfl)
    (hl : kws.length = ks.length := by rfl) (hn : pm.length = n := by rfl) (hlt : ∀ i ∈ pm, i < ks.length := by decide)
    (hall : ∀ env, (backToKw pos (keywordEach kws env)).all (·.1.isSome) = true := by intro _; rfl) (hks : ∀ env, (backToKw pos (keywordEach kws env)).filterMap (·.1) = ks := by intro _; rfl)
    (hd : (x == ("__debug__" : Str)) = false := by decide) (hpl : ∀ env, ((backTo pos (starEach [] env)).any (·.1) || (backToKw pos (keywordEach kws env)).any (·.1.isNone)) = false := by intro _; rfl) : DE g (.Call (.Name x p) [] kws pos) (eCallKN pm F ma) := by
  obtain ⟨t, q⟩ := ha
  obtain ⟨f, fd, ps, l, F1, hm, hk, hb⟩ := hf.ex
  refine ⟨fun E => tCallK0X (spX g.K n F g.T) pm ks.length L2.E0 (t E), fun y ok => ⟨pe_callK0X (X := g.cx y) F1 (ok.room.mono hj) (ok.gl hg) hm hk hb passL (q y ok).1 (hall _) (hks _) hd (hpl _), ?_⟩⟩
  intro B c0 c ad H0 s H r R Q cf bd hm2 k
  refine (q y ok).2 B c0 c ad H0 s H r _ _ cf (bd1 bd) hm2 fun ds vs H1 hx hn' s1 a1 => ?_
  have cf1 := cf.step s1
  have hvl : vs.length = ks.length := by rw [a1.length, hn', hl]
  exact ⟨hvl, c, picks pm ds, R, fun _ => False, cf1.ho, picks_at a1 pm, by rw [picks_len fun i hi => by rw [hn', hl]; exact hlt i hi, hn], ⟨Nat.le_trans (bd2 bd s1.3) cf.top, cf.sT.trans (cf.tT.trans ok.tb)⟩, hx, fun d v H' hR s2 a2 => k d v H' hR (s1.trans s2) a2, fun z hz => hz.elim⟩
/-- a raising def without arguments is not served -/
theorem de_callX0 : True := trivial
end
namespace X
open Res
def eCallKX (pm : List Nat) (F : XFn) (a : XA) : XE := ⟨DS.eCallKX pm F.Sx a.m, fun s => (a.f s).bind fun ds => F.F (picks pm ds), z2 a.z rfl, fun r R h => a.h r _ (wpb h fun ds h => h)⟩
def eCallKN (pm : List Nat) (F : XFn) (a : XA) : XE := ⟨DS.eCallKN pm F.Sx a.m, fun s => (a.f s).bind fun ds => (F.F (picks pm ds)).calm, z2 a.z rfl, fun r R h => a.h r _ (wpb h fun ds h => calmw h)⟩
@[simp] theorem eCallKX_f {pm : List Nat} {F : XFn} {a : XA} {s : List Sl} : (eCallKX pm F a).f s = (a.f s).bind fun ds => F.F (picks pm ds) := Eq.trans rfl rfl
@[simp] theorem eCallKN_f {pm : List Nat} {F : XFn} {a : XA} {s : List Sl} : (eCallKN pm F a).f s = (a.f s).bind fun ds => (F.F (picks pm ds)).calm := Eq.trans rfl rfl
end X
end DS
/-! DS28: the end of a law whose defs hold lambdas. -/
namespace DS
open PySem PySem.Spec PyProof.Rows L2

/-- the name of a lambda of the def x -/
def lamQ (x : Str) : Str := (x ++ ".<locals>.") ++ "<lambda>"
/-- what a def that holds lambdas has -/
structure LamF (K : PySem.W.Frag) (mg : Str → Option Value) (base : Heap) (TB : List (Addr × Str)) (x : Str) : Prop where
  ex : ∃ c P, codeK K x = .ref c ∧ LamX.TabB base mg c P ∧ (P, lamQ x) ∈ TB ∧ ∀ p ∈ TB, p.1 = P → p.2 = lamQ x
/-- defs that hold lambdas: name, code object, its table -/
abbrev Tab3 := List (Str × Addr × Addr)
def tbs (cs : Tab3) : List (Addr × Str) := cs.map fun p => (p.2.2, lamQ p.1)
theorem codeK_tab {K : PySem.W.Frag} {x : Str} {c P : Addr} (h : PySem.W.tabIn K x = some (c, P)) : codeK K x = .ref c := by
  unfold PySem.W.tabIn at h
  unfold codeK
  split at h
  · rename_i f hf
    split at h
    · rename_i fd hfo
      split at h
      · rename_i c₂ hc
        split at h
        · split at h
          · cases h
            simp only [hf, hfo, hc]
          · cases h
        · cases h
      · cases h
    · cases h
  · cases h
theorem LamF.of {K : PySem.W.Frag} {mg : Str → Option Value} {base : Heap} {cs : Tab3} {x : Str} {c P : Addr} (hm : (x, c, P) ∈ cs) (ht : ∀ p ∈ cs, PySem.W.tabIn K p.1 = some (p.2.1, p.2.2)) (hb : ∀ p ∈ cs, LamX.TabB base mg p.2.1 p.2.2) (hu : ∀ p ∈ cs, p.2.2 = P → p.1 = x) : LamF K mg base (tbs cs) x :=
  ⟨⟨c, P, codeK_tab (ht _ hm), hb _ hm, List.mem_map.mpr ⟨_, hm, rfl⟩, fun p hp e => by
    obtain ⟨q, hq, rfl⟩ := List.mem_map.mp hp
    show lamQ q.1 = lamQ x
    rw [hu q hq e]⟩⟩
open PySem.W in
theorem walk_ofL {l : PySem.W.OpenLaw} {k : Nat} {q : Program} {loose : List Str} {XP : (Str → Option Value) → Heap → Prop} {YP : World → Heap → Prop} {d : DefRec} {K : Params → PySem.W.Frag}
    (hn : l.most = some 63) (hdf : d.params.defaults = []) (hr : Room k callerA) (hY : ∀ (w : World) (h : Heap), YP w h → (K w.params).In h)
    (F : ∀ (w : World) (mg : Str → Option Value) (fa : Addr) (h : Heap), (K w.params).In h → h.Ns mainGlobals mg → mg d.name = some (.ref fa) →
      ∃ (fd : FuncData) (cs : Tab3), (∀ p ∈ cs, ∃ dr, (recsOf q).find? (fun e => e.name == p.1) = some dr) ∧ (∀ p ∈ cs, tabIn (K w.params) p.1 = some (p.2.1, p.2.2)) ∧ (∀ p ∈ cs, (K w.params).lookup p.2.2 = none) ∧ (∀ (s : Shared) (u : Value), BindsTo s fd ⟨[u], []⟩ [("script", u)]) ∧
        ∀ base : Heap, (K w.params).In base → base.Ns mainGlobals mg → (∀ p ∈ cs, LamX.TabB base mg p.2.1 p.2.2) → FnOk l.prog w (K w.params) mg base L2.CX0 k fa fd ["script"] (spLaw (tbs cs) (K w.params))) :
    PySem.W.WalkO q loose XP YP l.row.toRowW d [] (fun f vs => PySem.call f vs) := by
  refine Att.attach_callB hn hdf fun w s₀ s₁ mg mb fa o pm cd doc a vs ns G Y ho hd hcd hmg hobj hints hlen hbits hg => ?_
  have KX := hY w _ Y
  obtain ⟨fd, cs, hrec, htab, hlk, hb, hF⟩ := F w mg fa _ KX G.T.g hmg
  have key : ∀ p ∈ cs, CodeHd s₁.heap p.2.1 p.2.2 ∧ s₁.heap.get? p.2.2 = some (tabObj #[]) := fun p hp => by
    obtain ⟨dr, hdr⟩ := hrec p hp
    exact tab_of G.T KX hdr (htab p hp)
  refine LamX.law_callTs (cs := cs.map (·.2)) KX G.T.g G.T.b G.T.builtins G.T.nolimit hg (fun p hp => ?_) (fun p hp => ?_) (fun p hp => ?_) G.T.bmain hobj hints (Nat.le_trans hlen (by rw [sizeLine_eq]; decide)) hr (fun base h1 h2 h3 => hF base h1 h2 fun p hp => h3 _ (List.mem_map.mpr ⟨p, hp, rfl⟩)) hb (fun H hH hS => ?_) (fun H e s' h => h.elim)
  · obtain ⟨p', hp', rfl⟩ := List.mem_map.mp hp
    exact (key p' hp').2
  · obtain ⟨p', hp', rfl⟩ := List.mem_map.mp hp
    exact hlk p' hp'
  · obtain ⟨p', hp', rfl⟩ := List.mem_map.mp hp
    exact (key p' hp').1
  · refine ⟨a, ns, rfl, hS, hlen, fun p hp => ?_, fun _ => rfl⟩
    obtain ⟨p', hp', rfl⟩ := List.mem_map.mp hp
    exact LamX.TabS.nil (hH _ (List.mem_map.mpr ⟨p', hp', rfl⟩))
end DS
/-! DS29: what the generator leans on. -/
namespace DS
open PySem PySem.Spec PyProof.Rows L2

def tabG (K : PySem.W.Frag) (x : Str) : Addr × Addr := (PySem.W.tabIn K x).getD (0, 0)
def tabsOf (K : PySem.W.Frag) (names : List Str) : Tab3 := names.map fun x => (x, tabG K x)
def tabsOk (K : PySem.W.Frag) (names : List Str) : Bool := names.all (fun x => (PySem.W.tabIn K x).isSome && (K.lookup (tabG K x).2).isNone) && distinctB (names.map fun x => (tabG K x).2)
theorem tabsOk_tab {K : PySem.W.Frag} {names : List Str} (h : tabsOk K names = true) : (∀ p ∈ tabsOf K names, PySem.W.tabIn K p.1 = some (p.2.1, p.2.2)) ∧ (∀ p ∈ tabsOf K names, K.lookup p.2.2 = none) := by
  unfold tabsOk at h
  rw [Bool.and_eq_true, List.all_eq_true] at h
  refine ⟨fun p hp => ?_, fun p hp => ?_⟩
  · obtain ⟨x, hx, rfl⟩ := List.mem_map.mp hp
    have h1 := h.1 x hx
    rw [Bool.and_eq_true] at h1
    show PySem.W.tabIn K x = some ((tabG K x).1, (tabG K x).2)
    unfold tabG
    cases e : PySem.W.tabIn K x with
    | none => rw [e] at h1; cases h1.1
    | some z => rfl
  · obtain ⟨x, hx, rfl⟩ := List.mem_map.mp hp
    have h1 := h.1 x hx
    rw [Bool.and_eq_true, Option.isNone_iff_eq_none] at h1
    exact h1.2
theorem distinct_eq {f : Str → Nat} : ∀ {l : List Str}, distinctB (l.map f) = true → ∀ x ∈ l, ∀ y ∈ l, f x = f y → x = y
  | [], _, x, hx, _, _, _ => by cases hx
  | a :: l, h, x, hx, y, hy, e => by
    have h : ((l.map f).all (fun b => !(Nat.beq (f a) b)) && distinctB (l.map f)) = true := h
    rw [Bool.and_eq_true, List.all_eq_true] at h
    have ne : ∀ z ∈ l, f a ≠ f z := fun z hz q => by
      have := h.1 (f z) (List.mem_map.mpr ⟨z, hz, rfl⟩)
      rw [q, Nat.beq_refl] at this
      cases this
    rcases List.mem_cons.mp hx with e1 | hx1
    · rcases List.mem_cons.mp hy with e2 | hy1
      · rw [e1, e2]
      · rw [e1] at e
        exact absurd e (ne y hy1)
    · rcases List.mem_cons.mp hy with e2 | hy1
      · rw [e2] at e
        exact absurd e.symm (ne x hx1)
      · exact distinct_eq h.2 x hx1 y hy1 e
theorem LamF.of2 {K : PySem.W.Frag} {mg : Str → Option Value} {base : Heap} {names : List Str} {x : Str} (h : tabsOk K names = true) (hx : x ∈ names) (hb : ∀ p ∈ tabsOf K names, LamX.TabB base mg p.2.1 p.2.2) : LamF K mg base (tbs (tabsOf K names)) x := by
  have h2 := h
  unfold tabsOk at h2
  rw [Bool.and_eq_true] at h2
  exact LamF.of (c := (tabG K x).1) (P := (tabG K x).2) (List.mem_map.mpr ⟨x, hx, rfl⟩) (tabsOk_tab h).1 hb fun p hp e => by
    obtain ⟨y, hy, rfl⟩ := List.mem_map.mp hp
    exact distinct_eq (f := fun x => (tabG K x).2) h2.2 y hy x hx e
/-- the def of a name is in the program's records -/
def recsB (q : Program) (names : List Str) : Bool := names.all fun x => ((recsOf q).find? fun e => e.name == x).isSome
open PySem.W in
theorem walk_ofN {l : PySem.W.OpenLaw} {k : Nat} {q : Program} {loose : List Str} {XP : (Str → Option Value) → Heap → Prop} {YP : World → Heap → Prop} {d : DefRec} {K : Params → PySem.W.Frag} (names : List Str)
    (hn : l.most = some 63) (hdf : d.params.defaults = []) (hr : Room k callerA) (hY : ∀ (w : World) (h : Heap), YP w h → (K w.params).In h) (hq : recsB q names = true)
    (F : ∀ (w : World) (mg : Str → Option Value) (fa : Addr) (h : Heap), (K w.params).In h → h.Ns mainGlobals mg → mg d.name = some (.ref fa) →
      tabsOk (K w.params) names = true ∧ ∃ (fd : FuncData), (∀ (s : Shared) (u : Value), BindsTo s fd ⟨[u], []⟩ [("script", u)]) ∧
        ∀ base : Heap, (K w.params).In base → base.Ns mainGlobals mg → (∀ x ∈ names, LamF (K w.params) mg base (tbs (tabsOf (K w.params) names)) x) → FnOk l.prog w (K w.params) mg base L2.CX0 k fa fd ["script"] (spLaw (tbs (tabsOf (K w.params) names)) (K w.params))) :
    PySem.W.WalkO q loose XP YP l.row.toRowW d [] (fun f vs => PySem.call f vs) := by
  refine walk_ofL hn hdf hr hY fun w mg fa h hK hns hm => ?_
  obtain ⟨hT, fd, hb, hF⟩ := F w mg fa h hK hns hm
  refine ⟨fd, tabsOf (K w.params) names, fun p hp => ?_, (tabsOk_tab hT).1, (tabsOk_tab hT).2, hb, fun base h1 h2 h3 => hF base h1 h2 fun x hx => .of2 hT hx h3⟩
  obtain ⟨x, hx, rfl⟩ := List.mem_map.mp hp
  exact Option.isSome_iff_exists.mp (List.all_eq_true.mp hq x hx)
/-- the law's slots where it begins: the script is known -/
def lawE2 (N : List Str) (ns : List Int) : Env := ⟨.sh (.lst (ns.map .int)) :: .sh .st :: List.replicate (N.length - 2) .un, fun _ => False⟩
def LawTrue2 (N : List Str) (m : WS) : Prop := m.n ≤ most ∧ ∀ ns : List Int, ns.length ≤ 63 → m { nx := fun _ => False, rt := fun d => d = .bl true } (lawE2 N ns)
theorem law_cf2 {K : PySem.W.Frag} {c : Co} {H0 H : Hp} {great cells : List Int} {left turn : Int} {N : List Str} {a : Addr} {T : List (Addr × Str)} {ns : List Int} (h : StAt c H great cells left turn) (hcT : c.T = T) (hN : 2 ≤ N.length) {B : Nat} (hB : B ≤ most) (hS : SqL K H0 a (ns.map V.int)) (hl : ns.length ≤ 63) (fr : ∀ b o, H0 b = some o → H b = some o) (n1 : H0 c.sd = none) (n2 : H0 c.sg = none) :
    Cf K B { c with O := fun b => b = c.sd ∨ b = c.sg } { c with O := fun b => b = c.sd ∨ b = c.sg } (fun _ => 0) H ⟨fun _ _ _ => True, T⟩ ((start N [V.ref a]).set 1 (some (.ref c.sd))) H (lawE2 N ns) where
  sd := rfl
  sg := rfl
  scl := rfl
  sT := rfl
  tT := hcT
  le := fun _ h => h
  st := Run.refl h.inv
  dom := fun b hb => hb.elim (fun z => by rw [z]; exact ⟨_, h.1, nTK⟩) fun z => by rw [z]; exact ⟨_, h.2.1, nTL⟩
  dom0 := fun b hb => hb.elim (fun z => by rw [z]; exact ⟨_, h.1, nTK⟩) fun z => by rw [z]; exact ⟨_, h.2.1, nTL⟩
  osd := .inl rfl
  osg := .inr rfl
  own := fun i x e o => by
    exfalso
    have hm := List.mem_of_getElem? e
    rcases List.mem_cons.mp hm with z | hm
    · subst z; exact o.elim
    rcases List.mem_cons.mp hm with z | hm
    · subst z; exact o.elim
    rw [List.mem_replicate] at hm
    obtain ⟨_, rfl⟩ := hm
    exact o.elim
  inj := fun i j x z e _ o => by
    exfalso
    have hm := List.mem_of_getElem? e
    rcases List.mem_cons.mp hm with z | hm
    · subst z; exact o.elim
    rcases List.mem_cons.mp hm with z | hm
    · subst z; exact o.elim
    rw [List.mem_replicate] at hm
    obtain ⟨_, rfl⟩ := hm
    exact o.elim
  sl := fun i x e => by
    have sz : sizeLine = 16777216 := sizeLine_eq
    match i, e with
    | 0, e =>
      cases e
      have q : ((start N [V.ref a]).set 1 (some (.ref c.sd)))[0]? = some (some (.ref a)) := by
        rw [List.getElem?_set, if_neg (by decide)]
        rfl
      rw [q]
      refine .sh (.lst ?_ (by rw [List.length_map]; omega) (AtL.of_ints ns))
      rcases hS with hS | hS
      · refine .inl ⟨?_, ?_⟩
        · rcases hS with e1 | ⟨o, e1⟩
          · exact .inl (fr _ _ e1)
          · exact .inr ⟨o, fr _ _ e1⟩
        · intro z
          have no : H0 a = none := by
            rcases z with z | z
            · rw [z]; exact n1
            · rw [z]; exact n2
          rcases hS with e1 | ⟨o, e1⟩
          · rw [no] at e1; cases e1
          · rw [no] at e1; cases e1
      · exact .inr hS
    | 1, e =>
      cases e
      have : ((start N [V.ref a]).set 1 (some (.ref c.sd)))[1]? = some (some (.ref c.sd)) := by
        rw [List.getElem?_set, if_pos rfl, if_pos]
        show 1 < (List.map some [V.ref a] ++ List.replicate (N.length - 1) none).length
        rw [List.length_append, List.length_replicate]
        show 1 < 1 + (N.length - 1)
        omega
      rw [this]
      exact .sh .st
    | i + 2, e =>
      have hm := List.mem_of_getElem? (show (List.replicate (N.length - 2) Sl.un)[i]? = some x from e)
      rw [List.mem_replicate] at hm
      rw [hm.2]
      exact .un
  len := by
    show ((List.map some [V.ref a] ++ List.replicate (N.length - 1) none).set 1 (some (V.ref c.sd))).length = (Sl.sh (.lst (ns.map .int)) :: Sl.sh .st :: List.replicate (N.length - 2) Sl.un).length
    rw [List.length_set, List.length_append, List.length_replicate, List.length_cons, List.length_cons, List.length_replicate]
    show 1 + (N.length - 1) = N.length - 2 + 1 + 1
    omega
  ex := fun x z => z.elim
  top := hB
section
variable {P : Program} {w : World} {K : PySem.W.Frag} {mg : Str → Option Value} {base : Heap}
theorem law_okF {st : Stmt} {N : List Str} {m : WS} {k : Nat} {f : Addr} {fd : FuncData} {rest : List Stmt} {T : List (Addr × Str)} {p1 p2 p3 p4 p5 : Pos} (hn : PySem.W.nsIn K mainGlobals "law" = some (some (.ref f))) (F : L2.Fun K "law" "law" st f fd) (S : FnScope N ["script"] (defScope st)) (B : FnH P w K mg base 1 "_law_begun" (spBegun K)) (hk : 1 ≤ k)
    (hst : defBody st = .Assign [.Name "state" p1] (.Call (.Name "_law_begun" p2) [.Name "script" p3] [] p4) p5 :: rest) (hb : DSs (gOfL P w K mg base k N "law" st false T) rest m) (hN2 : 2 ≤ N.length)
    (h0 : N[0]? = some ("script" : Str)) (h1 : N[1]? = some ("state" : Str)) (hg : (defScope st).names.lookup ("_law_begun" : Str) = some .globalImplicit) (hs : (defScope st).names.lookup ("state" : Str) = some .local ∨ (defScope st).names.lookup ("state" : Str) = some .cell)
    (ht : LawTrue2 N m) : FnOk P w K mg base L2.CX0 (k + 1) f fd ["script"] (spLaw T K) := by
  obtain ⟨oc, od, kV, doc, pm, an, cdv, ct, osl, rfl, lk, hcd⟩ := F.ex
  have hc : codeK K "law" = cdv := by unfold codeK; rw [hn]; simp only [lk]
  obtain ⟨t, p⟩ := hb
  obtain ⟨fB, fdB, psB, FB, hmB, hkB, hbB⟩ := B.ex
  refine fn_of lk hcd S (fun vs H Q E ⟨a, ns, e, _⟩ => by rw [e]; rfl) (fun A outer s H vs Q E hr h => ?_)
  obtain ⟨a, ns, rfl, hS, hl, hT, q⟩ := h
  have ok : (gOfL P w K mg base k N "law" st false T).Ok { A := A.deeper (envOfC "law" (defScope st) s.heap.objs.size f cdv), s0 := s, H0 := H, env := envOfC "law" (defScope st) s.heap.objs.size f cdv, outer := outer, stack := envOfC "law" (defScope st) s.heap.objs.size f cdv :: outer, ex := [], pn := [], xe := fun _ _ => False, E := ⟨fun _ _ _ => True, T⟩ } :=
    ⟨rfl, hr, S.nd, PassesOwn.never, fun z => Bool.noConfusion z, rfl, fun z h => (by cases h; exact ⟨hc.symm, rfl⟩), fun z => Bool.noConfusion z⟩
  have hps : ∀ t0, PSs (cxOf L2.CX0 P w K mg base N "law" (defScope st) f cdv A outer s H E).nox (defBody st) t0 → PSs (cxOf L2.CX0 P w K mg base N "law" (defScope st) f cdv A outer s H E) (defBody st) t0 := fun t0 h => h.nox
  refine ⟨tSeq (tAsg (tCall (spBegun K) [] L2.E0 (tCons (tVar 0) tNil)) (gName 1)) (t ⟨fun _ _ _ => True, T⟩), ?_, ?_⟩
  · refine hps _ ?_
    rw [hst]
    refine pss_cons (ps_set (i := 1) ok.nd h1 (ok.loc hs) (pe_call FB (hr.mono hk) (ok.gl hg) hmB hkB hbB .nil L2.pass0 (pa_cons (pe_var h0 (S.par "script" (by simp) |>.elim Or.inl fun z => Or.inr (Or.inl z))) pa_nil)) (by rfl) (.inl rfl)) (p _ ok).1
  · have hz : 0 < N.length := by omega
    refine ⟨.ref a, rfl, a, ns, T, rfl, hS, hl, hT, fun c great cells H' hcT hs' n1 n2 fr => ?_⟩
    have cf := law_cf2 (K := K) (a := a) (T := T) hs' hcT hN2 ht.1 hS hl fr n1 n2
    refine (p _ ok).2 _ _ _ (fun _ => 0) H' _ H' (lawE2 N ns) _ _ cf ?_ (ht.2 ns hl) ?_
    · rw [show trn _ H' = (0 : Int).toNat from hs'.trn]
      show 0 + m.n ≤ m.n
      rw [Nat.zero_add]
      exact Nat.le_refl _
    · exact ⟨fun _ _ _ _ _ _ _ z => z.elim, fun _ _ _ _ _ _ _ z => z.elim, fun _ _ _ _ _ _ _ z => z.elim, fun d v H2 hR _ _ a1 => by
        have hR : d = .bl true := hR
        subst hR
        cases a1
        exact q H2⟩
end
theorem de_caughtL {g : G} {x a v e en y : Str} {st : Stmt} {CS : Addr} {params : Arguments} {body : Expr} {scope : Scope} {cs : List Str} {m : WE} {j : Nat} {lpos p pos p1 p2 p3 p4 p5 p6 p7 p8 p9 p10 p11 p12 p13 p14 : Pos} (k : Nat) (L : LamF g.K g.mg g.base g.T y) (F : Have g.K g.mg x st)
    (hst : defBody st = [.Assign [.Name v p1] (.Constant .none j p2) p3, .Try [.Expr (.Call (.Name a p4) [] [] p5) p6] [.ExceptHandler (some (.Name en p7)) (some e) [.Assign [.Name v p8] (.Name e p9) p10] p11] [] [] p12, .Return (some (.Name v p13)) p14])
    (S : FnScope [a, v, e] [a] (defScope st)) (hbd : BindsN st x [a]) (hme : g.mg en = some (.ref CS)) (hcs : ∀ x ∈ cs, PySem.W.exmOne g.K (.ref (clK g.K x)) (.ref CS) = some true ∧ ErrK g.K x)
    (hb : DE (g.lam k scope) body m) (hcq : g.cq = some (codeK g.K y, y ++ ".<locals>.") := by rfl) (hge : (defScope st).names.lookup en = some .globalImplicit := by rfl) (hde : (en == ("__debug__" : Str)) = false := by decide)
    (hN : [a, v, e].Nodup := by decide) (hv : (defScope st).names.lookup v = some .local := by rfl) (he : (defScope st).names.lookup e = some .local := by rfl) (ha : Vis (defScope st) a := by first | exact Or.inl rfl | exact Or.inr (Or.inl rfl)) (dv : (v == ("__debug__" : Str)) = false := by decide) (cv : (v == ("__classdict__" : Str)) = false := by decide) (dd : (e == ("__debug__" : Str)) = false := by decide) (cd : (e == ("__classdict__" : Str)) = false := by decide)
    (da : (a == ("__debug__" : Str)) = false := by decide) (ca : (a == ("__classdict__" : Str)) = false := by decide)
    (hk : k + 2 ≤ g.k := by exact Nat.le_of_ble_eq_true rfl) (hg : g.sc.names.lookup x = some .globalImplicit := by rfl) (LS : LamX.LamS g.sc scope := by exact LamX.lamS_by (by decide +kernel)) (hdef : ∀ env, defaultsOf params env = ([], []) := by intro _; rfl)
    (hbind : ∀ (q : Str) (cl : List (Str × Addr)) (pm cv ctv : Value), bindArgs (PySem.W.kla_fn "<lambda>" q params body scope cl pm cv ctv) ⟨[], []⟩ = pure [] := by intros; rfl) (hdb : (x == ("__debug__" : Str)) = false := by decide) :
    DE g (.Call (.Name x p) [.Lambda params body scope lpos] [] pos) (eCaught cs m) := by
  obtain ⟨c, P, h1, h2, h3, h4⟩ := L.ex
  exact de_caught (q := y ++ ".<locals>.") F hst S hbd hge hme hde hN hv he ha dv cv dd cd da ca hcs h2 (by rw [hcq, h1]) h3 h4 hb hk hg LS hdef hbind hdb
/-- all that a caught error's class says, by equations -/
theorem ErrK.of {K : PySem.W.Frag} {x : Str} (h1 : PySem.W.findIn K (.ref (clK K x)) "__getattribute__" = some (some (.builtin "BaseException.__getattribute__"))) (h2 : PySem.W.findIn K (.ref (clK K x)) "__getattr__" = some none) (h3 : PySem.W.subIn K (.ref (clK K x)) (.type "BaseException") = some true) (h4 : PySem.W.hasDictIn K (clK K x) = true)
    (h5 : PySem.W.findIn K (.ref (clK K x)) "__class__" = some (some (.builtin "object.__class__"))) (h6 : PySem.W.specialIn K (.builtin "object.__class__") "__get__" = some (some (.builtin "getset_descriptor.__get__"))) (h7 : PySem.W.takesIn K (.builtin "object.__class__") = some true) (h8 : PySem.W.mroIn K (clK K x) (.type "object") = some true)
    (p1 : PySem.W.kitOne K (.ref (clK K x)) (.type "int") = some false) (p2 : PySem.W.kitOne K (.ref (clK K x)) (.type "bool") = some false) (p3 : PySem.W.kitOne K (.ref (clK K x)) (.type "str") = some false) (p4 : PySem.W.kitOne K (.ref (clK K x)) (.type "tuple") = some false) (p5 : PySem.W.kitOne K (.ref (clK K x)) (.type "list") = some false) (p6 : PySem.W.kitOne K (.ref (clK K x)) (.type "dict") = some false) : ErrK K x :=
  ⟨⟨h1, h2, h3, h4, h5, h6, h7, h8⟩, fun n hn => by
    simp only [plainTy, List.mem_cons, List.not_mem_nil, or_false] at hn
    rcases hn with rfl | rfl | rfl | rfl | rfl | rfl
    · exact p1
    · exact p2
    · exact p3
    · exact p4
    · exact p5
    · exact p6⟩
theorem all_er {K : PySem.W.Frag} {C : Value} {b : List Str → Bool} {errs : ETab} (h : (errs.all fun p => match PySem.W.kitOne K (.ref (clK K p.1)) C with | some k => k == b p.2 | none => false) = true) : ∀ p ∈ errs, PySem.W.kitOne K (.ref (clK K p.1)) C = some (b p.2) := fun p hp => by
  have h1 := List.all_eq_true.mp h p hp
  cases e : PySem.W.kitOne K (.ref (clK K p.1)) C with
  | none => rw [e] at h1; cases h1
  | some k => rw [e] at h1; rw [eq_of_beq h1]
theorem ClsF.er_of {K : PySem.W.Frag} {C : Str} {errs : ETab} (h : (errs.all fun p => match PySem.W.kitOne K (.ref (clK K p.1)) (.ref (clK K C)) with | some k => k == decide (C ∈ p.2) | none => false) = true) : ∀ p ∈ errs, PySem.W.kitOne K (.ref (clK K p.1)) (.ref (clK K C)) = some (decide (C ∈ p.2)) := all_er (b := fun l => decide (C ∈ l)) h
theorem BltF.er_of {K : PySem.W.Frag} {n : String} {errs : ETab} (h : (errs.all fun p => match PySem.W.kitOne K (.ref (clK K p.1)) (.type n) with | some k => k == decide (Str.ofString n ∈ p.2) | none => false) = true) : ∀ p ∈ errs, PySem.W.kitOne K (.ref (clK K p.1)) (.type n) = some (decide (Str.ofString n ∈ p.2)) := all_er (b := fun l => decide (Str.ofString n ∈ l)) h
theorem ClsF.gl' {K : PySem.W.Frag} {h : Heap} {mg : Str → Option Value} {x : Str} (X : K.In h) (G : h.Ns mainGlobals mg) (a : PySem.W.nsIn K mainGlobals x = some (some (.ref (clK K x)))) : mg x = some (.ref (clK K x)) := PySem.W.mg_of X G a
theorem ClsF.pl' {K : PySem.W.Frag} {C : Value} (p0 : PySem.W.kitOne K (.type "NoneType") C = some false) (p1 : PySem.W.kitOne K (.type "bool") C = some false) (p2 : PySem.W.kitOne K (.type "int") C = some false) (p3 : PySem.W.kitOne K (.type "str") C = some false) (p4 : PySem.W.kitOne K (.type "tuple") C = some false) (p5 : PySem.W.kitOne K (.type "list") C = some false) (p6 : PySem.W.kitOne K (.type "dict") C = some false) :
    ∀ t ∈ ["NoneType", "bool", "int", "str", "tuple", "list", "dict"], PySem.W.kitOne K (.type t) C = some false := fun t ht => by
  simp only [List.mem_cons, List.not_mem_nil, or_false] at ht
  rcases ht with rfl | rfl | rfl | rfl | rfl | rfl | rfl
  · exact p0
  · exact p1
  · exact p2
  · exact p3
  · exact p4
  · exact p5
  · exact p6
end DS
/-! DS30: loops that forget what no later turn asks. -/
namespace DS
open PySem PySem.Spec PyProof.Rows L2

def Env.forget (r : Env) (vs : List Nat) : Env := { r with sl := wipeL r.sl vs }
theorem Cf.forget {K : PySem.W.Frag} {B : Nat} {c0 c : Co} {ad : Nat → Addr} {H0 : Hp} {E : EX} {s : L2.St} {H : Hp} {r : Env} (h : Cf K B c0 c ad H0 E s H r) (vs : List Nat) : Cf K B c0 c ad H0 E s H (r.forget vs) where
  sd := h.sd
  sg := h.sg
  scl := h.scl
  sT := h.sT
  tT := h.tT
  le := h.le
  st := h.st
  dom := h.dom
  dom0 := h.dom0
  osd := h.osd
  osg := h.osg
  own := fun i x e o => by
    rcases wipeL_get e with z | ⟨z, _⟩
    · subst z; exact o.elim
    · exact h.own i x z o
  inj := fun i j x w e e2 o o2 => by
    rcases wipeL_get e with z | ⟨z, _⟩
    · subst z; exact o.elim
    · rcases wipeL_get e2 with z2 | ⟨z2, _⟩
      · subst z2; exact o2.elim
      · exact h.inj i j x w z z2 o o2
  sl := fun i x e => by
    rcases wipeL_get e with z | ⟨z, n⟩
    · subst z; exact .un
    · exact h.sl i x z
  len := by show s.length = (wipeL r.sl vs).length; rw [wipeL_length]; exact h.len
  ex := h.ex
  top := h.top
def forV (vs : List Nat) (mg : WG) (mb : WS) (W : WEnds) : List D → Env → Prop
  | [], r => W.nx (r.forget vs)
  | d :: ds, r => mg d (r.forget vs) fun r1 => mb { nx := fun r' => forV vs mg mb W ds r', ct := fun r' => forV vs mg mb W ds r', bk := fun r' => W.nx (r'.forget vs), rt := W.rt } r1
def sForV (vs : List Nat) (mi : WI) (mg : WG) (mb : WS) : WS := ⟨fun W r => mi r fun ds => forV vs mg mb W ds r, mi.n + sizeLine * mb.n⟩
theorem sem_forV {K : PySem.W.Frag} {E : EX} {vs : List Nat} {mi : WI} {mg : WG} {mb : WS} {ws : List Nat} {wi : TI} {gt : TG} {tb : TS} (hi : SemI K E mi wi) (hg : SemG K E mg ws gt) (hb : SemS K E mb tb) : SemS K E (sForV vs mi mg mb) (tFor wi gt tb) := by
  intro B c0 c ad H0 s H r W X cf bd hm k
  refine hi B c0 c ad H0 s H r _ _ cf (bd1 bd) hm fun ds J S H1 hR s1 I hS => ?_
  have cf1 := cf.step s1
  have s1l := s1.3
  have hl := I.len
  have bd' : trn c.sd H + (mi.n + sizeLine * mb.n) ≤ B := bd
  have kk : ∀ i, i ≤ ds.length → trn c.sd H1 + i * mb.n ≤ trn c.sd H + (mi.n + sizeLine * mb.n) := fun i hi => by
    have : i * mb.n ≤ sizeLine * mb.n := Nat.mul_le_mul_right _ (by omega)
    omega
  refine ⟨fun i m σ H2 => m = ds.length - i ∧ i ≤ ds.length ∧ ∃ c' ad' r', Evo c H c' H2 ∧ trn c'.sd H2 ≤ trn c.sd H1 + i * mb.n ∧ Cf K B c0 c' ad' H0 E σ H2 r' ∧ S c' H2 ∧ forV vs mg mb W (ds.drop i) r', ⟨ds.length, by simp, Nat.zero_le _, c, ad, r, cf.evo s1, Nat.le_add_right _ _, cf1, hS, hR⟩, ?_⟩
  rintro i m σ H2 ⟨rfl, hle, c', ad', r', ev, le, cf2, hS2, hW⟩
  by_cases hlt : i < ds.length
  · refine .inr ⟨I.goes i c' H2 hlt hS2, fun σ' H' => ∃ c'' ad'' r'', Evo c H c'' H' ∧ trn c''.sd H' ≤ trn c.sd H1 + (i + 1) * mb.n ∧ Cf K B c0 c'' ad'' H0 E σ' H' r'' ∧ S c'' H' ∧ forV vs mg mb W (ds.drop (i + 1)) r'', fun σ' H' q => ⟨ds.length - (i + 1), by omega, rfl, hlt, q⟩, fun x H3 y => ?_⟩
    have ed := List.drop_eq_getElem_cons hlt
    rw [ed] at hW
    obtain ⟨s3, a3⟩ := I.ylds i c' H2 x H3 ds[i] (List.getElem?_eq_getElem hlt) hS2 cf2.ho y
    have cf3 := cf2.step s3
    have e3 := cf2.evo s3
    have s3l := s3.3
    have k1 := kk (i + 1) hlt
    have k2 : (i + 1) * mb.n = i * mb.n + mb.n := Nat.succ_mul i mb.n
    refine hg B c0 c' ad' H0 σ H3 (r'.forget vs) x ds[i] _ _ (cf3.forget vs) a3 hW fun s' r'' hb' cf4 _ _ => ?_
    refine hb B c0 c' ad' H0 s' H3 r'' _ _ cf4 (by omega) hb' ?_
    exact ⟨fun c5 ad5 s5 H5 r5 e5 l5 hw5 cf5 => ⟨c5, ad5, r5, (ev.trans e3).trans e5, by omega, cf5, I.evo _ _ _ _ hS2 (e3.trans e5), hw5⟩, fun c5 ad5 s5 H5 r5 e5 l5 hw5 cf5 => k.nx c5 ad5 s5 H5 (r5.forget vs) ((ev.trans e3).trans e5) (show _ ≤ trn c.sd H + (mi.n + sizeLine * mb.n) by omega) hw5 (cf5.forget vs),
      fun c5 ad5 s5 H5 r5 e5 l5 hw5 cf5 => ⟨c5, ad5, r5, (ev.trans e3).trans e5, by omega, cf5, I.evo _ _ _ _ hS2 (e3.trans e5), hw5⟩, fun d v H' q st l5 => k.rt d v H' q st (show _ ≤ trn c.sd H + (mi.n + sizeLine * mb.n) by omega)⟩
  · have e : i = ds.length := by omega
    subst e
    rw [List.drop_length] at hW
    exact .inl ⟨I.stops c' H2 hS2, k.nx c' ad' σ H2 (r'.forget vs) ev (Nat.le_trans le (kk _ hle)) hW (cf2.forget vs)⟩
theorem ds_forV {g : G} {tg iter : Expr} {body : List Stmt} {mi : WI} {mg : WG} {ws : List Nat} {mb : WS} {pos : Pos} (vs : List Nat) (hi : DI g tg iter mi) (hg : DG g tg mg ws) (hb : DSs g body mb) (hs : ∀ env x, foldedSetIterable iter env x = pure x := by intro _ _; rfl) :
    DSt g (.For tg iter body [] pos) (sForV vs mi mg mb) := by
  obtain ⟨ti, pi⟩ := hi
  obtain ⟨tt, pg⟩ := hg
  obtain ⟨tb, pb⟩ := hb
  exact ⟨fun E => tFor (ti E) (tt E) (tb E), fun y ok => ⟨ps_for ok.po rfl (pi y ok).1 (pg y ok).1 (pb y ok).1 (hs _), sem_forV (pi y ok).2 (pg y ok).2 (pb y ok).2⟩⟩
/-- with an invariant over what is left -/
theorem forV_ind {vs : List Nat} {mg : WG} {mb : WS} {W : WEnds} {I : List D → Env → Prop} (h0 : ∀ r, I [] r → W.nx (r.forget vs)) (hs : ∀ d ds r (nx : Env → Prop), I (d :: ds) r → (∀ r', I ds r' → nx r') → mg d (r.forget vs) fun r1 => mb.f { nx := nx, ct := nx, bk := fun r' => W.nx (r'.forget vs), rt := W.rt } r1) : ∀ ds r, I ds r → forV vs mg mb W ds r
  | [], r, h => h0 r h
  | d :: ds, r, h => hs d ds r _ h fun r' h' => forV_ind h0 hs ds r' h'
/-- each turn leaves the slots as they were at its head -/
theorem forV_same {vs : List Nat} {mg : WG} {mb : WS} {W : WEnds} {r0 : Env} {ds : List D} {r : Env} (hr : r.forget vs = r0) (h0 : W.nx r0) (hs : ∀ d ∈ ds, ∀ (nx : Env → Prop), (∀ r', r'.forget vs = r0 → nx r') → mg d r0 fun r1 => mb.f { nx := nx, ct := nx, bk := fun r' => W.nx (r'.forget vs), rt := W.rt } r1) : forV vs mg mb W ds r := by
  refine forV_ind (I := fun l r => r.forget vs = r0 ∧ ∀ d ∈ l, d ∈ ds) (fun r h => by rw [h.1]; exact h0) (fun d l r nx h hn => ?_) ds r ⟨hr, fun _ h => h⟩
  rw [h.1]
  exact hs d (h.2 d List.mem_cons_self) nx fun r' e => hn r' ⟨e, fun x hx => h.2 x (List.mem_cons_of_mem _ hx)⟩
@[simp] theorem f_sForV {vs mi mg mb} {W : WEnds} {r : Env} : (sForV vs mi mg mb).f W r = mi.f r fun ds => forV vs mg mb W ds r := Eq.trans rfl rfl
namespace X
open Res
/-- a turn's end, with what is forgotten -/
def turnV (vs : List Nat) (o : Out) (k : List Sl → Res Out) : Res Out := match o with
  | .nx s => k s
  | .ct s => k s
  | .bk s => .ok (.nx (wipeL s vs))
  | .rt d => .ok (.rt d)
def forFV (vs : List Nat) (g : D → List Sl → Res (List Sl)) (b : List Sl → Res Out) : List D → List Sl → Res Out
  | [], s => .ok (.nx (wipeL s vs))
  | d :: ds, s => (g d (wipeL s vs)).calm.bind fun s1 => (b s1).bind fun o => turnV vs o (forFV vs g b ds)
theorem forFV_w {vs : List Nat} {g : XG} {b : XS} {W : WEnds} : ∀ (ds : List D) (r : Env), (forFV vs g.f b.f ds r.sl).wp (Out.to W r.ew) r.ew → forV vs g.m b.m W ds r
  | [], r, h => h
  | d :: ds, r, h => by
    show g.m d (r.forget vs) _
    refine g.h d (r.forget vs) _ ?_
    have h : ((g.f d (wipeL r.sl vs)).calm.bind fun s1 => (b.f s1).bind fun o => turnV vs o (forFV vs g.f b.f ds)).wp (Out.to W r.ew) r.ew := h
    show (g.f d (wipeL r.sl vs)).wp _ _
    cases e : g.f d (wipeL r.sl vs) with
    | no => rw [e] at h; exact h
    | er x => rw [e] at h; exact h
    | ok s1 =>
      rw [e] at h
      refine b.h _ ⟨s1, r.ew⟩ (wpb h fun o ho => ?_)
      cases o with
      | nx s => exact forFV_w ds ⟨s, r.ew⟩ ho
      | ct s => exact forFV_w ds ⟨s, r.ew⟩ ho
      | bk s => exact ho
      | rt d => exact ho
def sForV (vs : List Nat) (i : XI) (g : XG) (b : XS) : XS := ⟨DS.sForV vs i.m g.m b.m, fun s => (i.f s).bind fun ds => forFV vs g.f b.f ds s, by show i.m.n + sizeLine * b.m.n = 0; rw [i.z, b.z]; rfl, fun W r h => i.h r _ (wpb h fun ds h => forFV_w ds r h)⟩
theorem sForV_f {vs : List Nat} {i : XI} {g : XG} {b : XS} {s : List Sl} : (sForV vs i g b).f s = (i.f s).bind fun ds => forFV vs g.f b.f ds s := rfl
/-- what a turn does with a state of its own -/
inductive Stp (α : Type) where
  | go (a : α) | out (a : α) | ret (d : D)
def runS {α : Type} (st : α → D → Stp α) : List D → α → α ⊕ D
  | [], a => .inl a
  | d :: ds, a => match st a d with
    | .go a' => runS st ds a'
    | .out a' => .inl a'
    | .ret z => .inr z
def nrmO (vs : List Nat) : Out → Out
  | .nx s => .nx (wipeL s vs)
  | .ct s => .nx (wipeL s vs)
  | .bk s => .bk (wipeL s vs)
  | .rt d => .rt d
@[simp] theorem nrmO_nx {vs s} : nrmO vs (.nx s) = .nx (wipeL s vs) := Eq.trans rfl rfl
@[simp] theorem nrmO_ct {vs s} : nrmO vs (.ct s) = .nx (wipeL s vs) := Eq.trans rfl rfl
@[simp] theorem nrmO_bk {vs s} : nrmO vs (.bk s) = .bk (wipeL s vs) := Eq.trans rfl rfl
@[simp] theorem nrmO_rt {vs d} : nrmO vs (.rt d) = .rt d := Eq.trans rfl rfl
def stO {α : Type} (en : α → List Sl) : Stp α → Out
  | .go a => .nx (en a)
  | .out a => .bk (en a)
  | .ret d => .rt d
@[simp] theorem stO_go {α : Type} {en : α → List Sl} {a : α} : stO en (.go a) = .nx (en a) := Eq.trans rfl rfl
@[simp] theorem stO_out {α : Type} {en : α → List Sl} {a : α} : stO en (.out a) = .bk (en a) := Eq.trans rfl rfl
@[simp] theorem stO_ret {α : Type} {en : α → List Sl} {d : D} : stO en (.ret d) = .rt d := Eq.trans rfl rfl
theorem forFV_run {α : Type} {vs : List Nat} {g : D → List Sl → Res (List Sl)} {b : List Sl → Res Out} (en : α → List Sl) (st : α → D → Stp α) (I : α → Prop) : ∀ (ds : List D) (a : α) (s : List Sl), wipeL s vs = en a → I a →
    (∀ a, I a → ∀ d ∈ ds, ((g d (en a)).calm.bind b).bind (fun o => .ok (nrmO vs o)) = .ok (stO en (st a d)) ∧ ∀ a', st a d = .go a' → I a') → forFV vs g b ds s = .ok (endL en (runS st ds a))
  | [], a, s, hs, _, _ => by show Res.ok (Out.nx (wipeL s vs)) = _; rw [hs]; rfl
  | d :: ds, a, s, hs, hI, h => by
    obtain ⟨h1, h2⟩ := h a hI d List.mem_cons_self
    show ((g d (wipeL s vs)).calm.bind fun s1 => (b s1).bind fun o => turnV vs o (forFV vs g b ds)) = _
    rw [hs]
    unfold runS
    cases e : (g d (en a)).calm with
    | no => rw [e] at h1; cases h1
    | er x => rw [e] at h1; cases h1
    | ok s1 =>
      rw [e] at h1
      show ((b s1).bind fun o => turnV vs o (forFV vs g b ds)) = _
      have h1 : (b s1).bind (fun o => .ok (nrmO vs o)) = .ok (stO en (st a d)) := h1
      cases e2 : b s1 with
      | no => rw [e2] at h1; cases h1
      | er x => rw [e2] at h1; cases h1
      | ok o =>
        rw [e2] at h1
        have h1 : nrmO vs o = stO en (st a d) := by
          have h3 : Res.ok (nrmO vs o) = .ok (stO en (st a d)) := h1
          injection h3
        show turnV vs o (forFV vs g b ds) = _
        cases q : st a d with
        | go a' =>
          rw [q] at h1
          have hI' := h2 a' q
          cases o with
          | nx s' => injection h1 with h1; exact forFV_run en st I ds a' s' h1 hI' fun a ha x hx => h a ha x (List.mem_cons_of_mem _ hx)
          | ct s' => injection h1 with h1; exact forFV_run en st I ds a' s' h1 hI' fun a ha x hx => h a ha x (List.mem_cons_of_mem _ hx)
          | bk s' => cases h1
          | rt z => cases h1
        | out a' =>
          rw [q] at h1
          cases o with
          | bk s' => injection h1 with h1; show Res.ok (Out.nx (wipeL s' vs)) = _; rw [h1]; rfl
          | nx s' => cases h1
          | ct s' => cases h1
          | rt z => cases h1
        | ret z =>
          rw [q] at h1
          cases o with
          | rt z' => injection h1 with h1; show Res.ok (Out.rt z') = _; rw [h1]; rfl
          | nx s' => cases h1
          | ct s' => cases h1
          | bk s' => cases h1
/-- .. without an invariant, nothing but going on -/
theorem forFV_fold {α : Type} {vs : List Nat} {g : D → List Sl → Res (List Sl)} {b : List Sl → Res Out} (en : α → List Sl) (st : α → D → α) (ds : List D) (a : α) (s : List Sl) (hs : wipeL s vs = en a) (h : ∀ a, ∀ d ∈ ds, ((g d (en a)).calm.bind b).bind (fun o => .ok (nrmO vs o)) = .ok (.nx (en (st a d)))) : forFV vs g b ds s = .ok (.nx (en (ds.foldl st a))) := by
  rw [forFV_run en (fun a d => .go (st a d)) (fun _ => True) ds a s hs trivial fun a _ d hd => ⟨h a d hd, fun _ _ => trivial⟩]
  have : ∀ (l : List D) (a : α), runS (fun a d => Stp.go (st a d)) l a = .inl (l.foldl st a) := by
    intro l
    induction l with
    | nil => intro a; rfl
    | cons d l ih => intro a; exact ih (st a d)
  rw [this]; rfl
/-- a loop that looks for something, and carries nothing -/
theorem forFV_find {vs : List Nat} {g : D → List Sl → Res (List Sl)} {b : List Sl → Res Out} (s0 : List Sl) (f : D → Option D) (ds : List D) (s : List Sl) (hs : wipeL s vs = s0) (h : ∀ d ∈ ds, ((g d s0).calm.bind b).bind (fun o => .ok (nrmO vs o)) = .ok (match f d with | some z => .rt z | none => .nx s0)) : forFV vs g b ds s = .ok (match ds.findSome? f with | some z => .rt z | none => .nx s0) := by
  rw [forFV_run (α := Unit) (fun _ => s0) (fun _ d => match f d with | some z => .ret z | none => .go ()) (fun _ => True) ds () s hs trivial fun a _ d hd => ⟨by rw [h d hd]; cases f d <;> rfl, fun _ _ => trivial⟩]
  have : ∀ (l : List D), runS (fun (_ : Unit) d => match f d with | some z => Stp.ret z | none => .go ()) l () = match l.findSome? f with | some z => .inr z | none => .inl () := by
    intro l
    induction l with
    | nil => rfl
    | cons d l ih =>
      unfold runS
      rw [List.findSome?_cons]
      cases e : f d with
      | some z => rfl
      | none => exact ih
  rw [this]
  cases ds.findSome? f <;> rfl
end X
end DS
/-! DS31: words for what functions give: comprehensions and loops over encoded items; texts. -/
namespace DS
open PySem PySem.Spec PyProof.Rows L2
namespace X
open Res
section
variable {α : Type} {i : XI} {g : XG} {c : XT} {e : XE} {b : XS} {vs : List Nat} {s : List Sl}
theorem lcF_enc {g : D → List Sl → Res (List Sl)} {c : List Sl → Res Bool} {e : List Sl → Res D} (xs : List α) (enc : α → D) (p : α → Bool) (f : α → D) (h : ∀ x ∈ xs, (g (enc x) s).bind (fun s1 => (c s1).bind fun b => if b = true then (e s1).bind fun z => .ok (some z) else .ok none) = .ok (if p x = true then some (f x) else none)) : lcF g c e s (xs.map enc) = .ok ((xs.filter p).map f) := by
  induction xs with
  | nil => rfl
  | cons x xs ih =>
    have h1 := h x List.mem_cons_self
    have ih := ih fun y hy => h y (List.mem_cons_of_mem _ hy)
    rw [List.map_cons, lcF_cons, ih]
    cases q : g (enc x) s with
    | no => rw [q] at h1; cases h1
    | er x => rw [q] at h1; cases h1
    | ok s1 =>
      rw [q] at h1
      have h1 : ((c s1).bind fun b => if b = true then (e s1).bind fun z => Res.ok (some z) else .ok none) = .ok (if p x = true then some (f x) else none) := h1
      show ((c s1).bind fun b => if b = true then (e s1).bind fun z => (Res.ok ((xs.filter p).map f)).bind fun zs => .ok (z :: zs) else .ok ((xs.filter p).map f)) = _
      cases q1 : c s1 with
      | no => rw [q1] at h1; cases h1
      | er x => rw [q1] at h1; cases h1
      | ok b =>
        rw [q1] at h1
        cases b with
        | true =>
          have h1 : ((e s1).bind fun z => Res.ok (some z)) = .ok (if p x = true then some (f x) else none) := h1
          show ((e s1).bind fun z => Res.ok (z :: (xs.filter p).map f)) = _
          cases q2 : e s1 with
          | no => rw [q2] at h1; cases h1
          | er x => rw [q2] at h1; cases h1
          | ok z =>
            rw [q2] at h1
            have h1 : Res.ok (some z) = .ok (if p x = true then some (f x) else none) := h1
            by_cases hp : p x = true
            · rw [if_pos hp] at h1
              cases h1
              rw [List.filter_cons_of_pos hp]; rfl
            · rw [if_neg hp] at h1; cases h1
        | false =>
          have h1 : Res.ok (none : Option D) = .ok (if p x = true then some (f x) else none) := h1
          by_cases hp : p x = true
          · rw [if_pos hp] at h1; cases h1
          · rw [List.filter_cons_of_neg hp]; rfl
/-- [e for x in xs if c] -/
theorem eLc_if (xs : List α) (enc : α → D) (p : α → Bool) (f : α → D) (hi : i.f s = .ok (xs.map enc)) (h : ∀ x ∈ xs, (g.f (enc x) (wipeL s vs)).bind (fun s1 => (c.f s1).bind fun b => if b = true then (e.f s1).bind fun z => .ok (some z) else .ok none) = .ok (if p x = true then some (f x) else none)) : (X.eLc i g c e vs).f s = .ok (.lst ((xs.filter p).map f)) := by
  rw [eLc_f, hi, ok_bind, lcF_enc xs enc p f h]; rfl
theorem fLc_if (xs : List α) (enc : α → D) (p : α → Bool) (f : α → D) (hi : i.f s = .ok (xs.map enc)) (h : ∀ x ∈ xs, (g.f (enc x) (wipeL s vs)).bind (fun s1 => (c.f s1).bind fun b => if b = true then (e.f s1).bind fun z => .ok (some z) else .ok none) = .ok (if p x = true then some (f x) else none)) : (X.fLc i g c e vs).f s = .ok (.ol ((xs.filter p).map f)) := by
  rw [fLc_f, hi, ok_bind, lcF_enc xs enc p f h]; rfl
theorem yes_of {x : D} {s : List Sl} {f : D} (h : (g.f x s).bind e.f = .ok f) : (g.f x s).bind (fun s1 => (X.cYes.f s1).bind fun b => if b = true then (e.f s1).bind fun z => .ok (some z) else .ok none) = .ok (if (fun (_ : Unit) => true) () = true then some f else none) := by
  cases q : g.f x s with
  | no => rw [q] at h; cases h
  | er x => rw [q] at h; cases h
  | ok s1 =>
    rw [q] at h
    have h : e.f s1 = .ok f := h
    show ((e.f s1).bind fun z => Res.ok (some z)) = _
    rw [h]; rfl
/-- [e for x in xs] -/
theorem eLc_map (xs : List α) (enc : α → D) (f : α → D) (hi : i.f s = .ok (xs.map enc)) (h : ∀ x ∈ xs, (g.f (enc x) (wipeL s vs)).bind e.f = .ok (f x)) : (X.eLc i g X.cYes e vs).f s = .ok (.lst (xs.map f)) := by
  rw [eLc_if xs enc (fun _ => true) f hi fun x hx => yes_of (h x hx), List.filter_eq_self.mpr fun _ _ => rfl]
theorem fLc_map (xs : List α) (enc : α → D) (f : α → D) (hi : i.f s = .ok (xs.map enc)) (h : ∀ x ∈ xs, (g.f (enc x) (wipeL s vs)).bind e.f = .ok (f x)) : (X.fLc i g X.cYes e vs).f s = .ok (.ol (xs.map f)) := by
  rw [fLc_if xs enc (fun _ => true) f hi fun x hx => yes_of (h x hx), List.filter_eq_self.mpr fun _ _ => rfl]
/-- .. over data as they are -/
theorem eLc_ifD (ds : List D) (p : D → Bool) (f : D → D) (hi : i.f s = .ok ds) (h : ∀ x ∈ ds, (g.f x (wipeL s vs)).bind (fun s1 => (c.f s1).bind fun b => if b = true then (e.f s1).bind fun z => .ok (some z) else .ok none) = .ok (if p x = true then some (f x) else none)) : (X.eLc i g c e vs).f s = .ok (.lst ((ds.filter p).map f)) := eLc_if ds id p f (by rw [List.map_id]; exact hi) h
theorem eLc_mapD (ds : List D) (f : D → D) (hi : i.f s = .ok ds) (h : ∀ x ∈ ds, (g.f x (wipeL s vs)).bind e.f = .ok (f x)) : (X.eLc i g X.cYes e vs).f s = .ok (.lst (ds.map f)) := eLc_map ds id f (by rw [List.map_id]; exact hi) h
/-- a loop over encoded items that carries a state of its own -/
def runE {β : Type} (st : β → α → Stp β) : List α → β → β ⊕ D
  | [], a => .inl a
  | x :: xs, a => match st a x with
    | .go a' => runE st xs a'
    | .out a' => .inl a'
    | .ret z => .inr z
theorem sForV_run {β : Type} (xs : List α) (enc : α → D) (en : β → List Sl) (st : β → α → Stp β) (I : β → Prop) (a : β) (hi : i.f s = .ok (xs.map enc)) (hs : wipeL s vs = en a) (hI : I a)
    (h : ∀ a, I a → ∀ x ∈ xs, ((g.f (enc x) (en a)).calm.bind b.f).bind (fun o => .ok (nrmO vs o)) = .ok (stO en (st a x)) ∧ ∀ a', st a x = .go a' → I a') : (X.sForV vs i g b).f s = .ok (endL en (runE st xs a)) := by
  rw [sForV_f, hi, ok_bind]
  clear hi
  induction xs generalizing a s with
  | nil => show Res.ok (Out.nx (wipeL s vs)) = _; rw [hs]; rfl
  | cons x xs ih =>
    obtain ⟨h1, h2⟩ := h a hI x List.mem_cons_self
    show ((g.f (enc x) (wipeL s vs)).calm.bind fun s1 => (b.f s1).bind fun o => turnV vs o (forFV vs g.f b.f (xs.map enc))) = _
    rw [hs]
    unfold runE
    cases e : (g.f (enc x) (en a)).calm with
    | no => rw [e] at h1; cases h1
    | er x => rw [e] at h1; cases h1
    | ok s1 =>
      rw [e] at h1
      show ((b.f s1).bind fun o => turnV vs o (forFV vs g.f b.f (xs.map enc))) = _
      have h1 : (b.f s1).bind (fun o => .ok (nrmO vs o)) = .ok (stO en (st a x)) := h1
      cases e2 : b.f s1 with
      | no => rw [e2] at h1; cases h1
      | er x => rw [e2] at h1; cases h1
      | ok o =>
        rw [e2] at h1
        have h1 : nrmO vs o = stO en (st a x) := by
          have h3 : Res.ok (nrmO vs o) = .ok (stO en (st a x)) := h1
          injection h3
        show turnV vs o (forFV vs g.f b.f (xs.map enc)) = _
        cases q : st a x with
        | go a' =>
          rw [q] at h1
          have hI' := h2 a' q
          cases o with
          | nx s' => injection h1 with h1; exact ih a' h1 hI' fun a ha x hx => h a ha x (List.mem_cons_of_mem _ hx)
          | ct s' => injection h1 with h1; exact ih a' h1 hI' fun a ha x hx => h a ha x (List.mem_cons_of_mem _ hx)
          | bk s' => cases h1
          | rt z => cases h1
        | out a' =>
          rw [q] at h1
          cases o with
          | bk s' => injection h1 with h1; show Res.ok (Out.nx (wipeL s' vs)) = _; rw [h1]; rfl
          | nx s' => cases h1
          | ct s' => cases h1
          | rt z => cases h1
        | ret z =>
          rw [q] at h1
          cases o with
          | rt z' => injection h1 with h1; show Res.ok (Out.rt z') = _; rw [h1]; rfl
          | nx s' => cases h1
          | ct s' => cases h1
          | bk s' => cases h1
theorem runE_fold {β : Type} (st : β → α → β) : ∀ (xs : List α) (a : β), runE (fun a x => Stp.go (st a x)) xs a = .inl (xs.foldl st a)
  | [], _ => rfl
  | x :: xs, a => runE_fold st xs (st a x)
theorem sForV_fold {β : Type} (xs : List α) (enc : α → D) (en : β → List Sl) (st : β → α → β) (I : β → Prop) (a : β) (hi : i.f s = .ok (xs.map enc)) (hs : wipeL s vs = en a) (hI : I a)
    (h : ∀ a, I a → ∀ x ∈ xs, ((g.f (enc x) (en a)).calm.bind b.f).bind (fun o => .ok (nrmO vs o)) = .ok (.nx (en (st a x))) ∧ I (st a x)) : (X.sForV vs i g b).f s = .ok (.nx (en (xs.foldl st a))) := by
  rw [sForV_run xs enc en (fun a x => .go (st a x)) I a hi hs hI fun a ha x hx => ⟨(h a ha x hx).1, fun a' e => by injection e with e; rw [← e]; exact (h a ha x hx).2⟩, runE_fold]
  rfl
theorem runE_find (f : α → Option D) : ∀ xs : List α, runE (fun (_ : Unit) x => match f x with | some z => Stp.ret z | none => .go ()) xs () = match xs.findSome? f with | some z => .inr z | none => .inl ()
  | [] => rfl
  | x :: xs => by
    unfold runE
    rw [List.findSome?_cons]
    cases e : f x with
    | some z => rfl
    | none => exact runE_find f xs
/-- a loop that looks for something -/
theorem sForV_find (xs : List α) (enc : α → D) (s0 : List Sl) (f : α → Option D) (hi : i.f s = .ok (xs.map enc)) (hs : wipeL s vs = s0)
    (h : ∀ x ∈ xs, ((g.f (enc x) s0).calm.bind b.f).bind (fun o => .ok (nrmO vs o)) = .ok (match f x with | some z => .rt z | none => .nx s0)) : (X.sForV vs i g b).f s = .ok (match xs.findSome? f with | some z => .rt z | none => .nx s0) := by
  rw [sForV_run xs enc (fun (_ : Unit) => s0) (fun _ x => match f x with | some z => .ret z | none => .go ()) (fun _ => True) () hi hs trivial fun a _ x hx => ⟨by rw [h x hx]; cases f x <;> rfl, fun _ _ => trivial⟩, runE_find]
  cases xs.findSome? f <;> rfl
end
end X

/-! ### texts as lists of signs -/
@[simp] theorem l1lt {c d : Nat} : ([c] < [d]) = (c < d) := by
  apply propext
  constructor
  · intro h
    cases h with
    | rel h => exact h
    | cons h => cases h
  · exact fun h => .rel h
@[simp] theorem l1le {c d : Nat} : ([c] ≤ [d]) = (c ≤ d) := by
  apply propext
  show ¬ ([d] < [c]) ↔ _
  rw [l1lt]
  exact Nat.not_lt
theorem str_ext {a b : Str} (h : a.cps.toList = b.cps.toList) : a = b := by
  cases a; cases b
  congr 1
  exact Array.toList_inj.mp h
theorem len_list (a : Str) : a.length = a.cps.toList.length := Array.length_toList.symm
theorem ofS (z : String) : (Str.ofString z).cps.toList = z.toList.map Char.toNat := by
  rw [Str.ofString_eq_toList]
@[simp] theorem mk_list (l : List Nat) : (⟨l.toArray⟩ : Str).cps.toList = l := rfl
theorem signs_of (z : Str) : signs z = z.cps.toList.map fun c => D.str ⟨#[c]⟩ := rfl
theorem numd_map {α : Type} (f : α → D) : ∀ (l : List α) (i : Nat), numd i (l.map f) = (l.zipIdx i).map fun p => D.tup [.int (p.2 : Nat), f p.1]
  | [], _ => rfl
  | x :: l, i => by
    rw [List.map_cons, List.zipIdx_cons, List.map_cons]
    show D.tup [.int (i : Nat), f x] :: numd (i + 1) (l.map f) = _
    rw [numd_map f l (i + 1)]
/-- one sign in a text -/
@[simp] theorem inD_sign (c : Nat) (z : Str) : inD (.str ⟨#[c]⟩) (.str z) = some (.bl (decide (c ∈ z.cps.toList))) := by
  show (inB (.str ⟨#[c]⟩) (.str z)).map D.bl = _
  show (some (!(Builtin.Str.occurrences z ⟨#[c]⟩ 0 z.length 1).isEmpty)).map D.bl = _
  rw [StrLaws.found_one]; rfl
@[simp] theorem ninD_sign (c : Nat) (z : Str) : ninD (.str ⟨#[c]⟩) (.str z) = some (.bl (decide (c ∉ z.cps.toList))) := by
  show (some (!(Builtin.Str.occurrences z ⟨#[c]⟩ 0 z.length 1).isEmpty)).map (fun b => D.bl (!b)) = _
  rw [StrLaws.found_one]; simp
/-- two texts are alike -/
@[simp] theorem eqD_str (a b : Str) : eqD (.str a) (.str b) = some (.bl (decide (a = b))) := by
  show (eqB (.str a) (.str b)).map D.bl = _
  unfold eqB
  have e : emp (.str a) (.str b) = none := rfl
  rw [e, Option.none_or, if_pos ⟨rfl, rfl, by simp only [toP, PyData.depth]; decide⟩]
  simp only [toP, PyData.eqv, Option.map_some]
  exact congrArg (fun b => some (D.bl b)) (Bool.eq_iff_iff.mpr (by simp))
@[simp] theorem neD_str (a b : Str) : neD (.str a) (.str b) = some (.bl (!decide (a = b))) := by
  have h := eqD_str a b
  unfold eqD at h
  unfold neD
  cases q : eqB (.str a) (.str b) with
  | none => rw [q] at h; cases h
  | some k => rw [q] at h; simp at h; simp [h]
@[simp] theorem eqD_ints (i j : Int) : eqD (.int i) (.int j) = some (.bl (decide (i = j))) := eqD_int i j
@[simp] theorem neD_ints (i j : Int) : neD (.int i) (.int j) = some (.bl (!decide (i = j))) := neD_int i j
/-! ### join -/
theorem join_len (a : Str) (l : List Str) : (Txt.join a l).length ≤ (l.map (·.length)).sum + l.length * a.length := by
  rw [TL.join_eq]
  induction l with
  | nil => exact Nat.zero_le _
  | cons x l ih =>
    cases l with
    | nil => show x.length ≤ _; simp only [List.map_cons, List.sum_cons, List.map_nil, List.sum_nil, List.length_cons]; omega
    | cons z r =>
      have e : (Str.join a (x :: z :: r)).length = x.length + a.length + (Str.join a (z :: r)).length := by
        show (x.cps ++ a.cps ++ (Str.join a (z :: r)).cps).size = _
        rw [Array.size_append, Array.size_append]; rfl
      rw [e, List.map_cons, List.sum_cons, List.length_cons, Nat.succ_mul]
      omega
theorem join_all {a : Str} {l : List Str} {p : Nat → Bool} (ha : a.cps.toList.all p = true) (hl : ∀ z ∈ l, z.cps.toList.all p = true) : (Txt.join a l).cps.toList.all p = true := by
  rw [TL.join_eq, List.all_eq_true]
  intro c hc
  rcases (PyProof.Rows.mem_join a c l).mp hc with ⟨t, ht, hc⟩ | ⟨_, hc⟩
  · exact List.all_eq_true.mp (hl t ht) c hc
  · exact List.all_eq_true.mp ha c hc
theorem joinD_of {a : Str} {l : List Str} (h : (l.map (·.length)).sum + l.length * a.length ≤ 16777216) : joinD (.str a) (.lst (l.map .str)) = some (.str (Txt.join a l)) := by
  show (strsD (l.map .str)).bind (fun ys => if (ys.map (·.length)).sum + ys.length * a.length ≤ 16777216 then some (D.str (Txt.join a ys)) else none) = _
  rw [strsD_map]
  exact if_pos h
theorem sum_le {l : List Str} {b : Nat} (h : ∀ z ∈ l, z.length ≤ b) : (l.map (·.length)).sum ≤ l.length * b := by
  induction l with
  | nil => exact Nat.zero_le _
  | cons x l ih =>
    have h1 := h x List.mem_cons_self
    have h2 := ih fun z hz => h z (List.mem_cons_of_mem _ hz)
    rw [List.map_cons, List.sum_cons, List.length_cons, Nat.succ_mul]
    omega
theorem all_str {l : List D} {p : Str → Prop} (h : ∀ d ∈ l, ∃ z, d = .str z ∧ p z) : ∃ zs : List Str, l = zs.map .str ∧ ∀ z ∈ zs, p z := by
  induction l with
  | nil => exact ⟨[], rfl, by simp⟩
  | cons x l ih =>
    obtain ⟨z, rfl, hz⟩ := h x List.mem_cons_self
    obtain ⟨zs, e, hs⟩ := ih fun d hd => h d (List.mem_cons_of_mem _ hd)
    refine ⟨z :: zs, by rw [e]; rfl, fun y hy => ?_⟩
    rcases List.mem_cons.mp hy with rfl | hy
    · exact hz
    · exact hs y hy
theorem intsD_mapf {α : Type} (l : List α) (f : α → Int) : intsD (l.map fun x => .int (f x)) = some (l.map f) := by
  induction l with
  | nil => rfl
  | cons x l ih => show (intsD (l.map fun x => .int (f x))).map (f x :: ·) = _; rw [ih]; rfl
theorem sumD_map {α : Type} (l : List α) (f : α → Int) : sumD [.lst (l.map fun x => .int (f x))] = some (.int (l.map f).sum) := by
  show (intsD _).map _ = _
  rw [intsD_mapf]; rfl
/-- a comprehension whose items may be of many values -/
theorem lcW_ex {mg : WG} {me : WE} {r : Env} {k : List D → Prop} (p : D → Prop) {ds : List D} (h : ∀ d ∈ ds, ∀ Kt : D → Prop, (∀ z, p z → Kt z) → mg d r fun r1 => me.f r1 Kt) (hk : ∀ out : List D, out.length = ds.length → (∀ z ∈ out, p z) → k out) : lcW mg cYes me r k ds [] := by
  refine lcW_ind (I := fun l out => out.length + l.length = ds.length ∧ (∀ d ∈ l, d ∈ ds) ∧ ∀ z ∈ out, p z) (fun out ⟨h1, _, h3⟩ => hk out h1 h3) (fun d l out Kn ⟨h1, h2, h3⟩ hn => ?_) ds [] ⟨Nat.zero_add _, fun _ h => h, by simp⟩
  refine h d (h2 d List.mem_cons_self) _ fun z hz => hn _ ⟨by rw [List.length_append, List.length_singleton]; rw [List.length_cons] at h1; omega, fun x hx => h2 x (List.mem_cons_of_mem _ hx), fun y hy => ?_⟩
  rcases List.mem_append.mp hy with hy | hy
  · exact h3 y hy
  · rw [List.mem_singleton.mp hy]; exact hz
@[simp] theorem f_eM1 {g a b} {r : Env} {R : D → Prop} : (eM1 g a b).f r R = a.f r fun x => (∃ z, x = .str z) ∧ b.f r fun y => ∃ z, g x y = some z ∧ R z := Eq.trans rfl rfl
@[simp] theorem f_eCallN {F a} {r : Env} {R : D → Prop} : (eCallN F a).f r R = a.f r fun ds => F.f ds R fun _ => False := Eq.trans rfl rfl
@[simp] theorem f_eCallX {F a} {r : Env} {R : D → Prop} : (eCallX F a).f r R = a.f r fun ds => F.f ds R r.ew := Eq.trans rfl rfl
@[simp] theorem f_eCallKN {pm F a} {r : Env} {R : D → Prop} : (eCallKN pm F a).f r R = a.f r fun ds => F.f (picks pm ds) R fun _ => False := Eq.trans rfl rfl
@[simp] theorem f_eCallKX {pm F a} {r : Env} {R : D → Prop} : (eCallKX pm F a).f r R = a.f r fun ds => F.f (picks pm ds) R r.ew := Eq.trans rfl rfl
@[simp] theorem f_eCaught {cs m} {r : Env} {R : D → Prop} : (eCaught cs m).f r R = m.f (hideE r fun x => x.cls ∈ cs ∧ x.fs = [] ∧ R (.err x.cls [] [])) (fun _ => R .non) := Eq.trans rfl rfl
end DS
/-! DS32: own lists looked at without being given up; pop, remove. -/
namespace DS
open PySem PySem.Spec PyProof.Rows L2
/-- data that hold no address -/
def flat : D → Bool
  | .non => true
  | .bl _ => true
  | .int _ => true
  | .str _ => true
  | _ => false
theorem At.flat {K : PySem.W.Frag} {c c' : Co} {H H' : Hp} {v : V} {d : D} (a : At K c H v d) (h : flat d = true) : At K c' H' v d := by
  cases a with
  | non => exact .non
  | bl b => exact .bl b
  | int i => exact .int i
  | str x hx => exact .str x hx
  | _ => cases h
theorem AtL.flat {K : PySem.W.Frag} {c c' : Co} {H H' : Hp} : ∀ {ds : List D} {vs : List V}, AtL K c H vs ds → ds.all flat = true → AtL K c' H' vs ds
  | [], _, .nil, _ => .nil
  | d :: ds, _, .cons a r, h => by
    rw [List.all_cons, Bool.and_eq_true] at h
    exact .cons (a.flat h.1) (AtL.flat r h.2)
theorem Step.less {n : Nat} {c : Co} {H H' : Hp} {a : Addr} (s : Step n (c.less a) H H') : Step n c H H' := ⟨s.1.co rfl rfl rfl rfl, s.2, s.3⟩
/-- e, while an own list stands for its items; what comes holds no address -/
def ePeek (i : Nat) (m : WE) : WE := ⟨fun r R => ∃ ds, r.sl[i]? = some (.ol ds) ∧ m (r.at i (.sh (.lst ds))) fun d => flat d = true ∧ R d, m.n⟩
def tPeek (i : Nat) (m : WT) : WT := ⟨fun r R => ∃ ds, r.sl[i]? = some (.ol ds) ∧ m (r.at i (.sh (.lst ds))) R, m.n⟩
def fPeek (i : Nat) (m : WF) : WF := ⟨fun r R => ∃ ds, r.sl[i]? = some (.ol ds) ∧ m (r.at i (.sh (.lst ds))) fun x => (∃ es, x = .ol es ∧ es.all flat = true) ∧ R x, m.n⟩
section
variable {K : PySem.W.Frag} {E : EX}
theorem sem_peek {i : Nat} {m : WE} {t : TE} (h : SemE K E m t) : SemE K E (ePeek i m) t := by
  intro B c0 c ad H0 s H r R Q cf bd ⟨ds, e, hm⟩ k
  obtain ⟨cf1, ev⟩ := cf.give e
  exact h B c0 _ ad H0 s H _ _ _ cf1 bd hm fun d v H' ⟨hf, hR⟩ s1 a1 => k d v H' hR s1.less (a1.flat hf)
theorem sem_tpeek {i : Nat} {m : WT} {t : TT} (h : SemT K E m t) : SemT K E (tPeek i m) t := by
  intro B c0 c ad H0 s H r R Q cf bd ⟨ds, e, hm⟩ k
  obtain ⟨cf1, ev⟩ := cf.give e
  exact h B c0 _ ad H0 s H _ _ _ cf1 bd hm fun b H' hR s1 => k b H' hR s1.less
theorem sem_fpeek {i : Nat} {m : WF} {t : TE} (h : SemF K E m t) : SemF K E (fPeek i m) t := by
  intro B c0 c ad H0 s H r R Q cf bd ⟨ds, e, hm⟩ k
  obtain ⟨cf1, ev⟩ := cf.give e
  refine h B c0 _ ad H0 s H _ _ _ cf1 bd hm fun x p H' ⟨⟨es, ex, hf⟩, hR⟩ o hp s1 ob => ?_
  subst ex
  obtain ⟨xs, e1, l, a⟩ := ob
  exact k _ p H' hR trivial hp s1.less ⟨xs, e1, l, a.flat hf⟩
end
section
variable {g : G} {e : Expr} {m : WE} {mt : WT} {mf : WF}
theorem de_peek (i : Nat) (h : DE g e m) : DE g e (ePeek i m) := let ⟨t, p⟩ := h; ⟨t, fun y ok => ⟨(p y ok).1, sem_peek (p y ok).2⟩⟩
theorem dt_peek (i : Nat) (h : DT g e mt) : DT g e (tPeek i mt) := let ⟨t, p⟩ := h; ⟨t, fun y ok => ⟨(p y ok).1, sem_tpeek (p y ok).2⟩⟩
theorem df_peek (i : Nat) (h : DF g e mf) : DF g e (fPeek i mf) := let ⟨t, p⟩ := h; ⟨t, fun y ok => ⟨(p y ok).1, sem_fpeek (p y ok).2⟩⟩
end

/-! ### an expression that changes own lists -/
structure WY where
  f : Env → (D → Env → Prop) → Prop
  n : Nat
def SemY (K : PySem.W.Frag) (E : EX) (m : WY) (t : TE) : Prop := ∀ B c0 c ad H0 s H r R Q, Cf K B c0 c ad H0 E s H r → trn c.sd H + m.n ≤ B → m.f r R → (∀ d v H' r', R d r' → Evo c H c H' → trn c.sd H' ≤ trn c.sd H + m.n → Cf K B c0 c ad H0 E s H' r' → At K c H' v d → Q v H') → t s H Q
def DY (g : G) (e : Expr) (m : WY) : Prop := ∃ t : EX → TE, ∀ y, g.Ok y → PE (g.cx y) e (t y.E) ∧ SemY g.K y.E m (t y.E)
/-- x.pop(e), x an own list -/
def pPop (i : Nat) (m : WE) : WY := ⟨fun r R => ∃ ds, r.sl[i]? = some (.ol ds) ∧ m r fun z => ∃ n j d, z = .int n ∧ ixN ds.length n = some j ∧ ds[j]? = some d ∧ R d (r.at i (.ol (ds.eraseIdx j))), m.n⟩
/-- x.pop() -/
def pPop0 (i : Nat) : WY := ⟨fun r R => ∃ ds d, r.sl[i]? = some (.ol ds) ∧ ds[ds.length - 1]? = some d ∧ R d (r.at i (.ol ds.dropLast)), 0⟩
theorem AtL.erase {K : PySem.W.Frag} {c : Co} {H : Hp} : ∀ {vs : List V} {ds : List D} (j : Nat), AtL K c H vs ds → AtL K c H (vs.eraseIdx j) (ds.eraseIdx j)
  | _, _, _, .nil => .nil
  | _, _, 0, .cons _ t => t
  | _, _, j + 1, .cons h t => .cons h (AtL.erase j t)
theorem AtL.dropLast {K : PySem.W.Frag} {c : Co} {H : Hp} {vs : List V} {ds : List D} (h : AtL K c H vs ds) : AtL K c H vs.dropLast ds.dropLast := by
  rw [List.dropLast_eq_take, List.dropLast_eq_take, h.length]
  exact h.take _
section
variable {g : G} {e : Expr} {m : WE} {pos : Pos}
/-- an own list becomes another one -/
theorem own_mut {K : PySem.W.Frag} {B : Nat} {c0 c : Co} {ad : Nat → Addr} {H0 H : Hp} {E : EX} {s : L2.St} {r : Env} {i : Nat} {ds ds' : List D} {xs' : List V} (cf : Cf K B c0 c ad H0 E s H r) (e : r.sl[i]? = some (.ol ds)) (l : xs'.length ≤ sizeLine) (a : AtL K c H xs' ds') :
    Cf K B c0 c ad H0 E s (upd H (ad i) (.lst xs')) (r.at i (.ol ds')) ∧ Evo c H c (upd H (ad i) (.lst xs')) ∧ trn c.sd (upd H (ad i) (.lst xs')) = trn c.sd H := by
  have ev : Evo c H c (upd H (ad i) (.lst xs')) := ⟨rfl, fun b o q _ n => ⟨by rw [upd_ne (show b ≠ ad i from fun z => n (by rw [z]; exact (cf.own i _ e trivial).1))]; exact q, n⟩⟩
  obtain ⟨cf2, ev2⟩ := cf.mut (x' := .ol ds') e trivial trivial (o' := .lst xs') nTL ⟨xs', upd_same, l, a.evo ev⟩
  exact ⟨cf2, ev2, trn_same (upd_ne (Ne.symm (cf.own i _ e trivial).2.2.1))⟩
theorem dp_pop (i : Nat) {x : Str} {p1 p2 p3 : Pos} (he : DE g e m) (hN : g.N[i]? = some x := by rfl) (hv : g.sc.names.lookup x = some .local ∨ g.sc.names.lookup x = some .cell ∨ g.sc.names.lookup x = some .free := by first | exact Or.inl rfl | exact Or.inr (Or.inl rfl) | exact Or.inr (Or.inr rfl))
    (hd : (x == ("__debug__" : Str)) = false := by decide) (hcd : (x == ("__classdict__" : Str)) = false := by decide) (hse : ∀ env, starEach [e] env = (false, eval e env) :: starEach [] env := by intro _; rfl) (hline : (p2.endLine == p3.line) = true := by rfl)
    (hbase : ∀ env, attributeBase (.Name x p1) "pop" env (eval (.Name x p1) env) = eval (.Name x p1) env := by intro _; rfl)
    (hfew : ∀ env, ((backTo p3 (starEach [e] env)).all (fun x => !x.1) && (backToKw p3 (keywordEach [] env)).all (fun x => x.1.isSome) && decide ([e].length + ([] : List Keyword).length + (if ([] : List Keyword).isEmpty then 0 else 1) < 30)) = true := by intro _; rfl) :
    DY g (.Call (.Attribute (.Name x p1) "pop" p2) [e] [] p3) (pPop i m) := by
  obtain ⟨t, p⟩ := he
  refine ⟨fun E => tBM g.K "list" rPopAt (tVar i) (tCons (t E) tNil), fun y ok => ⟨pe_bm PySem.F.plainAttrs_list PySem.F.slot_list_pop PySem.F.type_list_pop mt_popAt (pe_var (X := g.cx y) hN (visOf ok hv) hd hcd) (pa_cons (p y ok).1 pa_nil (hse _)) (hbase _) (hfew _) hline (hse _) rfl, ?_⟩⟩
  intro B c0 c ad H0 s H r R Q cf bd ⟨ds, q1, hm⟩ k
  obtain ⟨e2, xs0, e3, l0, a0⟩ := (cf.sl i _ q1).1 trivial
  refine ⟨.ref (ad i), e2, .inl ⟨rfl, xs0, SqL.of e3⟩, ?_⟩
  refine (p y ok).2 B c0 c ad H0 s H r _ _ cf bd hm fun z v H1 hz s1 a1 => ?_
  have cf1 := cf.step s1
  obtain ⟨n, j, d, rfl, q2, q3, hR⟩ := hz
  cases a1
  obtain ⟨_, xs, e3, l, a⟩ := (cf1.sl i _ q1).1 trivial
  have sz : sizeLine = 16777216 := sizeLine_eq
  obtain ⟨b1, b2, b3, b4⟩ := ixN_seq q2
  have hl := a.length
  obtain ⟨w, e4, a4⟩ := a.some_of q3
  have lx : (xs.eraseIdx j).length ≤ sizeLine := Nat.le_trans (List.length_eraseIdx_le xs j) l
  obtain ⟨cf2, ev2, tr⟩ := own_mut cf1 q1 lx (a.erase j)
  refine ⟨ad i, xs, n, j, w, rfl, rfl, e3, by omega, by omega, by rw [hl]; exact b1, e4, ?_⟩
  exact k d w _ _ hR ((cf.evo s1).trans ev2) (by rw [tr]; exact s1.3) cf2 (a4.evo ev2)
theorem dy_pop0 (i : Nat) {x : Str} {p1 p2 p3 : Pos} (hN : g.N[i]? = some x := by rfl) (hv : g.sc.names.lookup x = some .local ∨ g.sc.names.lookup x = some .cell ∨ g.sc.names.lookup x = some .free := by first | exact Or.inl rfl | exact Or.inr (Or.inl rfl) | exact Or.inr (Or.inr rfl))
    (hd : (x == ("__debug__" : Str)) = false := by decide) (hcd : (x == ("__classdict__" : Str)) = false := by decide) (hline : (p2.endLine == p3.line) = true := by rfl)
    (hbase : ∀ env, attributeBase (.Name x p1) "pop" env (eval (.Name x p1) env) = eval (.Name x p1) env := by intro _; rfl) :
    DY g (.Call (.Attribute (.Name x p1) "pop" p2) [] [] p3) (pPop0 i) := by
  refine ⟨fun E => tBM0 g.K "list" rPop (tVar i), fun y ok => ⟨pe_bm0 PySem.F.plainAttrs_list PySem.F.slot_list_pop PySem.F.type_list_pop mt_pop (pe_var (X := g.cx y) hN (visOf ok hv) hd hcd) (hbase _) hline, ?_⟩⟩
  intro B c0 c ad H0 s H r R Q cf bd ⟨ds, d, q1, q3, hR⟩ k
  obtain ⟨e2, xs, e3, l, a⟩ := (cf.sl i _ q1).1 trivial
  refine ⟨.ref (ad i), e2, .inl ⟨rfl, xs, SqL.of e3⟩, ?_⟩
  have hl := a.length
  obtain ⟨w, e4, a4⟩ := a.some_of q3
  obtain ⟨cf2, ev2, tr⟩ := own_mut cf q1 (by rw [List.length_dropLast]; omega) a.dropLast
  exact ⟨ad i, xs, w, rfl, rfl, e3, by rw [hl]; exact e4, k d w _ _ hR ev2 (by rw [tr]; exact Nat.le_add_right _ _) cf2 (a4.evo ev2)⟩
end
/-- x = such an expression -/
def sSetY (i : Nat) (m : WY) : WS := ⟨fun W r => m.f r fun d r' => W.nx (r'.put i d), m.n⟩
def sDoY (m : WY) : WS := ⟨fun W r => m.f r fun _ r' => W.nx r', m.n⟩
def sAppY (i : Nat) (m : WY) : WS := ⟨fun W r => (∃ ds0, r.sl[i]? = some (.ol ds0)) ∧ m.f r fun d r' => ∃ ds, r'.sl[i]? = some (.ol ds) ∧ ds.length < sizeLine ∧ W.nx (r'.at i (.ol (ds ++ [d]))), m.n⟩
section
variable {g : G} {e : Expr} {m : WY} {me : WE} {pos pos' : Pos}
theorem ds_setY (i : Nat) {x : Str} (he : DY g e m) (hi : g.N[i]? = some x := by rfl) (hx : g.sc.names.lookup x = some .local ∨ g.sc.names.lookup x = some .cell := by first | exact Or.inl rfl | exact Or.inr rfl)
    (hs : ∀ env, swapsWith e (some (.Name x pos')) pos.line env = pure false := by intro _; rfl) (hf : g.fn x = true ∨ g.sc.names.lookup x = some .local := by first | exact Or.inl rfl | exact Or.inr rfl) : DSt g (.Assign [.Name x pos'] e pos) (sSetY i m) := by
  obtain ⟨t, p⟩ := he
  refine ⟨fun E => tAsg (t E) (gName i), fun y ok => ⟨ps_set (X := g.cx y) ok.nd hi (ok.loc hx) (p y ok).1 (hs _) (ok.hf hf), ?_⟩⟩
  intro B c0 c ad H0 s H r W X cf bd hm k
  exact (p y ok).2 B c0 c ad H0 s H r _ _ cf bd hm fun d v H' r' hR ev tr cf' a1 => k.nx c ad _ H' _ ev tr hR (cf'.put i a1)
theorem ds_appY (i : Nat) {x : Str} {p1 p2 p3 : Pos} (he : DY g e m) (hN : g.N[i]? = some x := by rfl) (hv : g.sc.names.lookup x = some .local ∨ g.sc.names.lookup x = some .cell ∨ g.sc.names.lookup x = some .free := by first | exact Or.inl rfl | exact Or.inr (Or.inl rfl) | exact Or.inr (Or.inr rfl))
    (hd : (x == ("__debug__" : Str)) = false := by decide) (hcd : (x == ("__classdict__" : Str)) = false := by decide) (hse : ∀ env, starEach [e] env = (false, eval e env) :: starEach [] env := by intro _; rfl) (hline : (p2.endLine == p3.line) = true := by rfl)
    (hbase : ∀ env, attributeBase (.Name x p1) "append" env (eval (.Name x p1) env) = eval (.Name x p1) env := by intro _; rfl)
    (hfew : ∀ env, ((backTo p3 (starEach [e] env)).all (fun x => !x.1) && (backToKw p3 (keywordEach [] env)).all (fun x => x.1.isSome) && decide ([e].length + ([] : List Keyword).length + (if ([] : List Keyword).isEmpty then 0 else 1) < 30)) = true := by intro _; rfl)
    (hs : ∀ env, swapsWith (.Call (.Attribute (.Name x p1) "append" p2) [e] [] p3) none pos.line env = pure false := by intro _; rfl) : DSt g (.Expr (.Call (.Attribute (.Name x p1) "append" p2) [e] [] p3) pos) (sAppY i m) := by
  obtain ⟨t, p⟩ := he
  refine ⟨fun E => tDrop (tBM g.K "list" rAppend (tVar i) (tCons (t E) tNil)), fun y ok => ⟨ps_expr (pe_bm PySem.F.plainAttrs_list PySem.F.slot_list_append PySem.F.type_list_append mt_append (pe_var (X := g.cx y) hN (visOf ok hv) hd hcd) (pa_cons (p y ok).1 pa_nil (hse _)) (hbase _) (hfew _) hline (hse _) rfl) (hs _), ?_⟩⟩
  intro B c0 c ad H0 s H r W X cf bd ⟨⟨ds0, e0⟩, hm⟩ k
  obtain ⟨e2, xs0, e3, l0, a0⟩ := (cf.sl i _ e0).1 trivial
  refine ⟨.ref (ad i), e2, .inl ⟨rfl, xs0, SqL.of e3⟩, ?_⟩
  refine (p y ok).2 B c0 c ad H0 s H r _ _ cf bd hm fun d v H1 r' hR ev tr cf1 a1 => ?_
  obtain ⟨ds, e1, hl, hR⟩ := hR
  obtain ⟨_, xs, e3, l, a⟩ := (cf1.sl i _ e1).1 trivial
  have lx : xs.length < sizeLine := by rw [a.length]; exact hl
  refine ⟨ad i, xs, v, rfl, rfl, e3, lx, ?_⟩
  obtain ⟨cf2, ev2, tr2⟩ := own_mut cf1 e1 (by rw [List.length_append, List.length_singleton]; omega) (a.append (.cons a1 .nil))
  exact k.nx c ad s _ _ (ev.trans ev2) (by rw [tr2]; exact tr) hR cf2
/-- x.remove(e): whole numbers -/
def sRem (i : Nat) (m : WE) : WS := ⟨fun W r => ∃ ds, r.sl[i]? = some (.ol ds) ∧ m r fun z => ∃ (ns : List Int) (k : Int) (j : Nat), ds = ns.map .int ∧ z = .int k ∧ ns[j]? = some k ∧ (∀ q : Nat, q < j → ns[q]? ≠ some k) ∧ W.nx (r.at i (.ol ((ns.eraseIdx j).map .int))), m.n⟩
theorem ds_rem (i : Nat) {x : Str} {p1 p2 p3 : Pos} (he : DE g e me) (hN : g.N[i]? = some x := by rfl) (hv : g.sc.names.lookup x = some .local ∨ g.sc.names.lookup x = some .cell ∨ g.sc.names.lookup x = some .free := by first | exact Or.inl rfl | exact Or.inr (Or.inl rfl) | exact Or.inr (Or.inr rfl))
    (hd : (x == ("__debug__" : Str)) = false := by decide) (hcd : (x == ("__classdict__" : Str)) = false := by decide) (hse : ∀ env, starEach [e] env = (false, eval e env) :: starEach [] env := by intro _; rfl) (hline : (p2.endLine == p3.line) = true := by rfl)
    (hbase : ∀ env, attributeBase (.Name x p1) "remove" env (eval (.Name x p1) env) = eval (.Name x p1) env := by intro _; rfl)
    (hfew : ∀ env, ((backTo p3 (starEach [e] env)).all (fun x => !x.1) && (backToKw p3 (keywordEach [] env)).all (fun x => x.1.isSome) && decide ([e].length + ([] : List Keyword).length + (if ([] : List Keyword).isEmpty then 0 else 1) < 30)) = true := by intro _; rfl)
    (hs : ∀ env, swapsWith (.Call (.Attribute (.Name x p1) "remove" p2) [e] [] p3) none pos.line env = pure false := by intro _; rfl) : DSt g (.Expr (.Call (.Attribute (.Name x p1) "remove" p2) [e] [] p3) pos) (sRem i me) := by
  obtain ⟨t, p⟩ := he
  refine ⟨fun E => tDrop (tBM g.K "list" rRemI (tVar i) (tCons (t E) tNil)), fun y ok => ⟨ps_expr (pe_bm PySem.F.plainAttrs_list PySem.F.slot_list_remove PySem.F.type_list_remove mt_remove (pe_var (X := g.cx y) hN (visOf ok hv) hd hcd) (pa_cons (p y ok).1 pa_nil (hse _)) (hbase _) (hfew _) hline (hse _) rfl) (hs _), ?_⟩⟩
  intro B c0 c ad H0 s H r W X cf bd ⟨ds, e1, hm⟩ k
  obtain ⟨e2, xs0, e3, l0, a0⟩ := (cf.sl i _ e1).1 trivial
  refine ⟨.ref (ad i), e2, .inl ⟨rfl, xs0, SqL.of e3⟩, ?_⟩
  refine (p y ok).2 B c0 c ad H0 s H r _ _ cf bd hm fun d v H1 hR s1 a1 => ?_
  have cf1 := cf.step s1
  obtain ⟨ns, kk, j, rfl, rfl, h1, h2, hR⟩ := hR
  cases a1
  obtain ⟨_, xs, e3, l, a⟩ := (cf1.sl i _ e1).1 trivial
  have ex := a.ints
  subst ex
  refine ⟨ad i, ns, kk, j, rfl, rfl, e3, h1, h2, ?_⟩
  obtain ⟨cf2, ev2, tr2⟩ := own_mut cf1 e1 (xs' := (ns.eraseIdx j).map V.int) (ds' := (ns.eraseIdx j).map D.int) (by rw [List.length_map] at l ⊢; exact Nat.le_trans (List.length_eraseIdx_le ns j) l) (AtL.of_ints _)
  exact k.nx c ad s _ _ ((cf.evo s1).trans ev2) (by rw [tr2]; exact s1.3) hR cf2
end

/-! ### list(x), list(range(n)): of one's own, or plain -/
def fToL (a : WA) : WF := ⟨fun r R => a r fun xs => ∃ d ds, xs = [d] ∧ (d = .tup ds ∨ d = .lst ds) ∧ R (.ol ds), a.n⟩
def fRg (a : WE) : WF := ⟨fun r R => a r fun z => ∃ n : Int, z = .int n ∧ -(2 ^ 62) ≤ n ∧ n.toNat ≤ sizeLine ∧ R (.ol (upto n.toNat)), a.n⟩
def eRg (a : WE) : WE := ⟨fun r R => a r fun z => ∃ n : Int, z = .int n ∧ -(2 ^ 62) ≤ n ∧ n.toNat ≤ sizeLine ∧ R (.lst (upto n.toNat)), a.n⟩
def rToL (K : PySem.W.Frag) : List V → Hp → VK → Prop := fun xs H Q => ∃ p ys, xs = [.ref p] ∧ (SqL K H p ys ∨ SqT K H p ys) ∧ ∀ l, H l = none → Q (.ref l) (upd H l (.lst ys))
section
variable {g : G} {e : Expr} {ma : WA} {me : WE} {p p2 q pos : Pos}
theorem df_toL (hm : g.mg "list" = none) (h : DA g [e] ma) (hg : g.sc.names.lookup ("list" : Str) = some .globalImplicit := by rfl) (he : ∀ env, starEach [e] env = (false, eval e env) :: starEach [] env := by intro _; rfl) :
    DF g (.Call (.Name "list" p) [e] [] pos) (fToL ma) := by
  obtain ⟨t, pr⟩ := h
  refine ⟨fun E => tCB (rToL g.K) (t E), fun y ok => ⟨pe_callTy (T := "list") call_list_of (ok.gl hg) hm (by decide +kernel) (pr y ok).1 (by decide) (by decide) (he _) rfl, ?_⟩⟩
  intro B c0 c ad H0 s H r R Q cf bd hx k
  refine (pr y ok).2 B c0 c ad H0 s H r _ _ cf bd hx fun ds vs H1 hx _ s1 a1 => ?_
  obtain ⟨d, es, rfl, hd, hR⟩ := hx
  cases a1 with
  | cons b1 b2 =>
    cases b2
    rcases hd with rfl | rfl
    · cases b1 with
      | tup h l a => exact ⟨_, _, rfl, .inr h.sq, fun q hq => k _ _ _ hR trivial (s1.free0 hq) (s1.trans (Step.new (n := 0) s1.1 hq)) ⟨_, upd_same, l, a.evo (evo_with hq)⟩⟩
    · cases b1 with
      | lst h l a => exact ⟨_, _, rfl, .inl h.sq, fun q hq => k _ _ _ hR trivial (s1.free0 hq) (s1.trans (Step.new (n := 0) s1.1 hq)) ⟨_, upd_same, l, a.evo (evo_with hq)⟩⟩
theorem rgV_upto (n : Int) : rgV 0 n = (List.range n.toNat).map fun k : Nat => V.int (k : Int) := by
  unfold rgV
  rw [Int.sub_zero]
  exact List.map_congr_left fun i _ => by rw [Int.zero_add]
theorem AtL.upto {K : PySem.W.Frag} {c : Co} {H : Hp} (n : Int) : AtL K c H (rgV 0 n) (upto n.toNat) := by
  rw [rgV_upto]
  unfold DS.upto
  have := AtL.of_ints (K := K) (c := c) (H := H) ((List.range n.toNat).map fun k : Nat => (k : Int))
  rw [List.map_map, List.map_map] at this
  exact this
theorem rg_ok {n : Int} (h1 : -(2 ^ 62) ≤ n) (h2 : n.toNat ≤ sizeLine) : RgOk 0 n := by
  have sz : sizeLine = 16777216 := sizeLine_eq
  unfold RgOk
  have p62 : (2 : Int) ^ 62 = 4611686018427387904 := by decide +kernel
  have p24 : (2 : Nat) ^ 24 = 16777216 := by decide +kernel
  rw [p62] at h1 ⊢
  rw [p24]
  omega
theorem df_rg (hm : g.mg "list" = none) (hm2 : g.mg "range" = none) (h : DE g e me) (hg : g.sc.names.lookup ("list" : Str) = some .globalImplicit := by rfl) (hg2 : g.sc.names.lookup ("range" : Str) = some .globalImplicit := by rfl)
    (he : ∀ env, starEach [e] env = (false, eval e env) :: starEach [] env := by intro _; rfl) (he2 : ∀ env, starEach [.Call (.Name "range" p2) [e] [] q] env = (false, eval (.Call (.Name "range" p2) [e] [] q) env) :: starEach [] env := by intro _; rfl) :
    DF g (.Call (.Name "list" p) [.Call (.Name "range" p2) [e] [] q] [] pos) (fRg me) := by
  obtain ⟨t, pr⟩ := h
  refine ⟨fun E => tLstRg (tRg1 (t E)), fun y ok => ⟨pe_listRg (X := g.cx y) rfl (ok.gl hg) hm (prg_1 (ok.gl hg2) hm2 (pr y ok).1 (he _)) (he2 _), ?_⟩⟩
  intro B c0 c ad H0 s H r R Q cf bd hx k
  refine (pr y ok).2 B c0 c ad H0 s H r _ _ cf bd hx fun z v H1 hx s1 a1 => ?_
  obtain ⟨n, rfl, h1, h2, hR⟩ := hx
  cases a1
  refine ⟨n, rfl, rg_ok h1 h2, fun q hq => k _ _ _ hR trivial (s1.free0 hq) (s1.trans (Step.new (n := 0) s1.1 hq)) ⟨_, upd_same, ?_, AtL.upto n⟩⟩
  rw [rgV_upto, List.length_map, List.length_range]; exact h2
theorem de_rg (hm : g.mg "list" = none) (hm2 : g.mg "range" = none) (h : DE g e me) (hg : g.sc.names.lookup ("list" : Str) = some .globalImplicit := by rfl) (hg2 : g.sc.names.lookup ("range" : Str) = some .globalImplicit := by rfl)
    (he : ∀ env, starEach [e] env = (false, eval e env) :: starEach [] env := by intro _; rfl) (he2 : ∀ env, starEach [.Call (.Name "range" p2) [e] [] q] env = (false, eval (.Call (.Name "range" p2) [e] [] q) env) :: starEach [] env := by intro _; rfl) :
    DE g (.Call (.Name "list" p) [.Call (.Name "range" p2) [e] [] q] [] pos) (eRg me) := by
  obtain ⟨t, pr⟩ := h
  refine ⟨fun E => tLstRg (tRg1 (t E)), fun y ok => ⟨pe_listRg (X := g.cx y) rfl (ok.gl hg) hm (prg_1 (ok.gl hg2) hm2 (pr y ok).1 (he _)) (he2 _), ?_⟩⟩
  intro B c0 c ad H0 s H r R Q cf bd hx k
  refine (pr y ok).2 B c0 c ad H0 s H r _ _ cf bd hx fun z v H1 hx s1 a1 => ?_
  obtain ⟨n, rfl, h1, h2, hR⟩ := hx
  cases a1
  have ho := (cf.step s1).ho
  refine ⟨n, rfl, rg_ok h1 h2, fun q hq => k _ _ _ hR (s1.trans (ho.new (n := 0) hq)) (ho.lst hq ?_ (AtL.upto n))⟩
  rw [rgV_upto, List.length_map, List.length_range]; exact h2
end
end DS
/-! DS33: several targets, some of them own lists. -/
namespace DS
open PySem PySem.Spec PyProof.Rows L2
inductive MP where
  | e (m : WE)
  | f (m : WF)
def MP.n : MP → Nat
  | .e m => m.n
  | .f m => m.n
def mPs : List MP → Env → (List Sl → Prop) → Prop
  | [], _, R => R []
  | .e m :: ps, r, R => m r fun d => mPs ps r fun zs => R (.sh d :: zs)
  | .f m :: ps, r, R => m r fun x => mPs ps r fun zs => R (x :: zs)
def nPs : List MP → Nat
  | [] => 0
  | p :: ps => p.n + nPs ps
inductive Ready (K : PySem.W.Frag) (c : Co) (ad : Nat → Addr) (H0 H : Hp) (r : Env) : Hp → List Sl → List V → Prop
  | nil {Hs : Hp} : Ready K c ad H0 H r Hs [] []
  | sh {Hs H1 : Hp} {v : V} {d : D} {zs : List Sl} {vs : List V} : At K c H v d → (∀ b, Fr H1 b → Fr Hs b) → Ready K c ad H0 H r H1 zs vs → Ready K c ad H0 H r Hs (.sh d :: zs) (v :: vs)
  | own {Hs H1 : Hp} {p : Addr} {x : Sl} {u : HO} {zs : List Sl} {vs : List V} : x.own → c.O p → Apart c ad H0 r p → ObAt K c H p x → Fr Hs p → H1 p = some u → nT u → (∀ b, Fr H1 b → Fr Hs b) → Ready K c ad H0 H r H1 zs vs → Ready K c ad H0 H r Hs (x :: zs) (.ref p :: vs)
/-- the addresses of the new objects -/
def newAt : List Sl → List V → List Addr
  | .ol _ :: zs, .ref p :: vs => p :: newAt zs vs
  | .ok _ :: zs, .ref p :: vs => p :: newAt zs vs
  | .ot _ :: zs, .ref p :: vs => p :: newAt zs vs
  | _ :: zs, _ :: vs => newAt zs vs
  | _, _ => []
theorem newAt_own {x : Sl} (o : x.own) {p : Addr} {zs : List Sl} {vs : List V} : newAt (x :: zs) (.ref p :: vs) = p :: newAt zs vs := by
  cases x with
  | un => exact o.elim
  | sh d => exact o.elim
  | _ => rfl
theorem newAt_sh {d : D} {v : V} {zs : List Sl} {vs : List V} : newAt (.sh d :: zs) (v :: vs) = newAt zs vs := rfl
section
variable {K : PySem.W.Frag} {B : Nat} {c0 c : Co} {ad : Nat → Addr} {H0 H Hs : Hp} {E : EX} {s : L2.St} {r : Env}
theorem Ready.fresh {zs : List Sl} {vs : List V} (h : Ready K c ad H0 H r Hs zs vs) : ∀ q ∈ newAt zs vs, Fr Hs q := by
  induction h with
  | nil => intro q hq; cases hq
  | sh a m h ih => intro q hq; exact m q (ih q hq)
  | own o hO ap ob f e t m h ih =>
    intro q hq
    rw [newAt_own o] at hq
    rcases List.mem_cons.mp hq with z | hq
    · rw [z]; exact f
    · exact m q (ih q hq)
theorem with_same {p : Addr} (h : c.O p) : c.with p = c := by
  have : (fun b => c.O b ∨ b = p) = c.O := funext fun b => propext ⟨fun z => z.elim id fun z => z ▸ h, .inl⟩
  cases c
  simp only [Co.with] at *
  congr 1
/-- all of them put into their slots -/
def layR (r : Env) : List Nat → List Sl → Env
  | i :: is, z :: zs => layR (r.at i z) is zs
  | _, _ => r
def layS (s : L2.St) : List Nat → List V → L2.St
  | i :: is, v :: vs => layS (s.set i (some v)) is vs
  | _, _ => s
theorem Cf.layAll {zs : List Sl} {vs : List V} (h : Ready K c ad H0 H r Hs zs vs) : ∀ (is : List Nat) (s : L2.St) (ad' : Nat → Addr) (r' : Env), Cf K B c0 c ad' H0 E s H r' → is.length = zs.length → (∀ i ∈ is, i < r'.sl.length) → (∀ q ∈ newAt zs vs, ∀ j z, r'.sl[j]? = some z → z.own → ad' j ≠ q) →
    ∃ ad2, Cf K B c0 c ad2 H0 E (layS s is vs) H (layR r' is zs) := by
  induction h with
  | nil => intro is s ad' r' cf hl hi hn; cases is with
    | nil => exact ⟨ad', cf⟩
    | cons i is => cases hl
  | @sh Hs H1 v d zs vs a m h ih =>
    intro is s ad' r' cf hl hi hn
    cases is with
    | nil => cases hl
    | cons i is =>
      refine ih is _ _ _ (cf.put i a) (by simpa using hl) (fun j hj => ?_) fun q hq j z e o => ?_
      · show j < (r'.sl.set i _).length
        rw [List.length_set]; exact hi j (List.mem_cons_of_mem _ hj)
      · rw [show (r'.at i (.sh d)).sl = r'.sl.set i (.sh d) from rfl, List.getElem?_set] at e
        by_cases hij : i = j
        · rw [if_pos hij] at e
          split at e
          · cases e; exact o.elim
          · cases e
        · rw [if_neg hij] at e
          exact hn q (by rw [newAt_sh]; exact hq) j z e o
  | @own Hs H1 p x u zs vs o hO ap ob f e1 t m h ih =>
    intro is s ad' r' cf hl hi hn
    cases is with
    | nil => cases hl
    | cons i is =>
      have hne : ∀ q ∈ newAt zs vs, q ≠ p := fun q hq w => by
        have := h.fresh q hq
        rw [w] at this
        exact this u e1 t
      have ap' : Apart c ad' H0 r' p := ⟨ap.h0, ap.n1, ap.n2, ap.n3, hn p (by rw [newAt_own o]; exact List.mem_cons_self)⟩
      have ws := with_same hO
      have cf1 := Cf.settle (i := i) (p := p) (x := x) (by rw [ws]; exact cf) ap' (hi i List.mem_cons_self) o (by rw [ws]; exact ob)
      rw [ws] at cf1
      refine ih is _ _ _ cf1 (by simpa using hl) (fun j hj => ?_) fun q hq j z e o2 => ?_
      · show j < (r'.sl.set i _).length
        rw [List.length_set]; exact hi j (List.mem_cons_of_mem _ hj)
      · rw [show (r'.at i x).sl = r'.sl.set i x from rfl, List.getElem?_set] at e
        by_cases hij : i = j
        · show (if j = i then p else ad' j) ≠ q
          rw [if_pos hij.symm]
          exact (hne q hq).symm
        · rw [if_neg hij] at e
          show (if j = i then p else ad' j) ≠ q
          rw [if_neg (Ne.symm hij)]
          exact hn q (by rw [newAt_own o]; exact List.mem_cons_of_mem _ hq) j z e o2

theorem Step.frB {n : Nat} {H' : Hp} {b : Addr} (q : Step n c H H') (f : Fr H' b) : Fr H b := by
  intro o e t
  obtain ⟨⟨g, cl, l, tn, z1, z2, _⟩, k, _⟩ := q
  by_cases e1 : b = c.sd
  · exact f.ne z1 nTK e1.symm
  · by_cases e2 : b = c.sg
    · exact f.ne z2 nTL e2.symm
    · exact f o (k b o e e1 e2 t) t
end
def SemMs (K : PySem.W.Frag) (E : EX) (ps : List MP) (t : TA) : Prop := ∀ B c0 c ad H0 s H r R Q, Cf K B c0 c ad H0 E s H r → trn c.sd H + nPs ps ≤ B → mPs ps r R →
  (∀ zs vs H' c', R zs → zs.length = ps.length → vs.length = ps.length → Evo c H c' H' → (∀ b, c.O b → c'.O b) → (∀ b o, H b = some o → b ≠ c.sd → b ≠ c.sg → nT o → H' b = some o) → trn c'.sd H' ≤ trn c.sd H + nPs ps → Cf K B c0 c' ad H0 E s H' r → Ready K c' ad H0 H' r H zs vs → Q vs H') → t s H Q
section
variable {K : PySem.W.Frag} {E : EX}
theorem semS_mnil : SemMs K E [] tNil := by
  intro B c0 c ad H0 s H r R Q cf bd hm k
  exact k [] [] H c hm rfl rfl Evo.refl (fun _ h => h) (fun _ _ h _ _ _ => h) (Nat.le_add_right _ _) cf .nil
theorem sem_me {m : WE} {ps : List MP} {te : TE} {ta : TA} (he : SemE K E m te) (hr : SemMs K E ps ta) : SemMs K E (.e m :: ps) (tCons te ta) := by
  intro B c0 c ad H0 s H r R Q cf bd hm k
  refine he B c0 c ad H0 s H r _ _ cf (bd1 bd) hm fun d v H1 hR s1 a1 => ?_
  refine hr B c0 c ad H0 s H1 r _ _ (cf.step s1) (bd2 bd s1.3) hR fun zs vs H2 c' hz l l2 ev le fr tr cf2 rd => ?_
  exact k (.sh d :: zs) (v :: vs) H2 c' hz (by simp [l]) (by simp [l2]) ((cf.evo s1).trans ev) le (fun b o e n1 n2 t => fr b o (s1.2 b o e n1 n2 t) n1 n2 t) (up5 s1.3 tr) cf2 (.sh (a1.evo ev) (fun b f => s1.frB f) rd)
theorem sem_mf {m : WF} {ps : List MP} {te : TE} {ta : TA} (he : SemF K E m te) (hr : SemMs K E ps ta) : SemMs K E (.f m :: ps) (tCons te ta) := by
  intro B c0 c ad H0 s H r R Q cf bd hm k
  refine he B c0 c ad H0 s H r _ _ cf (bd1 bd) hm fun x p H1 hR o hp s1 ob => ?_
  obtain ⟨u, e1, t1⟩ := ob.dom o
  have cf1 := cf.apart hp s1 ⟨e1, t1⟩
  have ap := cf.isApart hp
  refine hr B c0 _ ad H0 s H1 r _ _ cf1 (bd2 bd s1.3) hR fun zs vs H2 c' hz l l2 ev le fr tr cf2 rd => ?_
  have q1 : c'.sd = c.sd := cf2.sd.trans cf.sd.symm
  have q2 : c'.sg = c.sg := cf2.sg.trans cf.sg.symm
  have q3 : c'.sl = c.sl := cf2.scl.trans cf.scl.symm
  refine k (x :: zs) (.ref p :: vs) H2 c' hz (by simp [l]) (by simp [l2]) ((cf.evoApart hp s1).trans ev) (fun b hb => le b (.inl hb)) (fun b o e n1 n2 t => fr b o (s1.2 b o e n1 n2 t) n1 n2 t) (up5 s1.3 tr) cf2 ?_
  exact .own o (le p (.inr rfl)) ⟨ap.h0, by rw [q1]; exact ap.n1, by rw [q2]; exact ap.n2, by rw [q3]; exact ap.n3, ap.ne⟩ (ob.evo ev fun o q t => fr _ _ q ap.n1 ap.n2 t) hp e1 t1 (fun b f => s1.frB f) rd
end
def DMs (g : G) (es : List Expr) (ps : List MP) : Prop := ∃ t : EX → TA, ∀ y, g.Ok y → PA (g.cx y) es (t y.E) ∧ SemMs g.K y.E ps (t y.E)
def sMany (is : List Nat) (ps : List MP) : WS := ⟨fun W r => mPs ps r fun zs => (∀ i ∈ is, i < r.sl.length) ∧ W.nx (layR r is zs), nPs ps⟩
section
variable {g : G} {e : Expr} {es : List Expr} {m : WE} {mf : WF} {ps : List MP} {pos : Pos}
theorem dm_nil : DMs g [] [] := ⟨fun _ => tNil, fun y ok => ⟨pa_nil, semS_mnil⟩⟩
theorem dm_e (he : DE g e m) (hr : DMs g es ps) (hs : ∀ env, starEach (e :: es) env = (false, eval e env) :: starEach es env := by intro _; rfl) : DMs g (e :: es) (.e m :: ps) :=
  let ⟨t, p⟩ := he; let ⟨t2, p2⟩ := hr; ⟨fun E => tCons (t E) (t2 E), fun y ok => ⟨pa_cons (p y ok).1 (p2 y ok).1 (hs _), sem_me (p y ok).2 (p2 y ok).2⟩⟩
theorem dm_f (he : DF g e mf) (hr : DMs g es ps) (hs : ∀ env, starEach (e :: es) env = (false, eval e env) :: starEach es env := by intro _; rfl) : DMs g (e :: es) (.f mf :: ps) :=
  let ⟨t, p⟩ := he; let ⟨t2, p2⟩ := hr; ⟨fun E => tCons (t E) (t2 E), fun y ok => ⟨pa_cons (p y ok).1 (p2 y ok).1 (hs _), sem_mf (p y ok).2 (p2 y ok).2⟩⟩
theorem sem_many {K : PySem.W.Frag} {E : EX} {is : List Nat} {t : TA} {Pq : Ends → L2.St → List V → Hp → Prop} (hl : is.length = ps.length) (h : SemMs K E ps t) (hP : ∀ D σ vs H1, vs.length = is.length → D.nx (layS σ is vs) H1 → Pq D σ vs H1) : SemS K E (sMany is ps) (fun D σ H => t σ H (fun vs H1 => Pq D σ vs H1)) := by
  intro B c0 c ad H0 s H r W X cf bd hm k
  refine h B c0 c ad H0 s H r _ _ cf bd hm fun zs vs H' c' hR l l2 ev le fr tr cf2 rd => hP X s vs H' (by rw [l2, hl]) ?_
  obtain ⟨ad2, cf3⟩ := Cf.layAll rd is s ad r cf2 (by rw [hl, l]) hR.1 fun q hq j z e o w => by
    have f := rd.fresh q hq
    obtain ⟨u, e1, t1⟩ := cf.dom _ (cf.own j z e o).1
    exact f.ne e1 t1 w
  exact k.nx c' ad2 _ H' _ ev tr hR.2 cf3
/-- x, y = e1, e2 -/
theorem ds_many2 (i j : Nat) {x y : Str} {a b : Expr} {m1 m2 : MP} {px py pt : Pos} {kt k2 pt2} (ha : DMs g [a, b] [m1, m2]) (hij : i ≠ j := by decide) (hi : g.N[i]? = some x := by rfl) (hj : g.N[j]? = some y := by rfl)
    (hx : g.sc.names.lookup x = some .local := by rfl) (hy : g.sc.names.lookup y = some .local := by rfl)
    (hw : ∀ env : PySem.Env, env.scope = g.sc → swappedStores [.Tuple [.Name x px, .Name y py] kt pt] (.Tuple [a, b] k2 pt2) env = pure (some [x, y]) := by
      intro env h
      unfold swappedStores
      first | rfl | (simp only [Env.kindOf, Env.blockKind, h]; rfl) | (simp only [Env.kindOf, Env.blockKind, h]; decide +kernel))
    (hs : ∀ env, swapsWithSole [.Tuple [.Name x px, .Name y py] kt pt] (.Tuple [a, b] k2 pt2) pos.line env = pure false := by intro _; rfl) :
    DSt g (.Assign [.Tuple [.Name x px, .Name y py] kt pt] (.Tuple [a, b] k2 pt2) pos) (sMany [i, j] [m1, m2]) := by
  obtain ⟨t, p⟩ := ha
  refine ⟨fun E => tPar i j (t E), fun z ok => ⟨ps_par (X := g.cx z) rfl ok.nd hi hj hij (by show z.env.scope.names.lookup x = _; rw [ok.sc]; exact hx) (by show z.env.scope.names.lookup y = _; rw [ok.sc]; exact hy) (p z ok).1 (hw _ ok.sc) (hs _), sem_many (Pq := fun D σ vs H1 => ∃ v w, vs = [v, w] ∧ D.nx ((σ.set i (some v)).set j (some w)) H1) rfl (p z ok).2 fun D σ vs H1 l h => ?_⟩⟩
  match vs, l, h with
  | [v, w], _, h => exact ⟨v, w, rfl, h⟩
/-- x, y, z = e1, e2, e3 -/
theorem ds_many3 (i j l : Nat) {x y z : Str} {a b c : Expr} {m1 m2 m3 : MP} {px py pz pt : Pos} {kt k2 pt2} (ha : DMs g [a, b, c] [m1, m2, m3]) (hij : i ≠ j := by decide) (hil : i ≠ l := by decide) (hjl : j ≠ l := by decide) (hi : g.N[i]? = some x := by rfl) (hj : g.N[j]? = some y := by rfl) (hl : g.N[l]? = some z := by rfl)
    (hx : g.sc.names.lookup x = some .local := by rfl) (hy : g.sc.names.lookup y = some .local := by rfl) (hz : g.sc.names.lookup z = some .local := by rfl)
    (hw : ∀ env : PySem.Env, env.scope = g.sc → swappedStores [.Tuple [.Name x px, .Name y py, .Name z pz] kt pt] (.Tuple [a, b, c] k2 pt2) env = pure (some [x, y, z]) := by
      intro env h
      unfold swappedStores
      first | rfl | (simp only [Env.kindOf, Env.blockKind, h]; rfl) | (simp only [Env.kindOf, Env.blockKind, h]; decide +kernel))
    (hs : ∀ env, swapsWithSole [.Tuple [.Name x px, .Name y py, .Name z pz] kt pt] (.Tuple [a, b, c] k2 pt2) pos.line env = pure false := by intro _; rfl) :
    DSt g (.Assign [.Tuple [.Name x px, .Name y py, .Name z pz] kt pt] (.Tuple [a, b, c] k2 pt2) pos) (sMany [i, j, l] [m1, m2, m3]) := by
  obtain ⟨t, p⟩ := ha
  refine ⟨fun E => tPar3 i j l (t E), fun q ok => ⟨ps_par3 (X := g.cx q) rfl ok.nd hi hj hl hij hil hjl (by show q.env.scope.names.lookup x = _; rw [ok.sc]; exact hx) (by show q.env.scope.names.lookup y = _; rw [ok.sc]; exact hy) (by show q.env.scope.names.lookup z = _; rw [ok.sc]; exact hz) (p q ok).1 (hw _ ok.sc) (hs _), sem_many (Pq := fun D σ vs H1 => ∃ u v w, vs = [u, v, w] ∧ D.nx (((σ.set i (some u)).set j (some v)).set l (some w)) H1) rfl (p q ok).2 fun D σ vs H1 l h => ?_⟩⟩
  match vs, l, h with
  | [u, v, w], _, h => exact ⟨u, v, w, rfl, h⟩
end
end DS
/-! DS34: the functions of DS32, DS33. -/
namespace DS
open PySem PySem.Spec PyProof.Rows L2
theorem first_at {k : Int} : ∀ {ns : List Int}, k ∈ ns → ∃ j : Nat, ns[j]? = some k ∧ (∀ q : Nat, q < j → ns[q]? ≠ some k) ∧ ns.eraseIdx j = ns.erase k
  | n :: ns, h => by
    by_cases e : n = k
    · exact ⟨0, by rw [e]; rfl, fun q hq => absurd hq (Nat.not_lt_zero _), by rw [e, List.erase_cons_head]; rfl⟩
    · have h2 : k ∈ ns := by
        rcases List.mem_cons.mp h with z | z
        · exact absurd z.symm e
        · exact z
      obtain ⟨j, h1, h3, h4⟩ := first_at h2
      refine ⟨j + 1, h1, fun q hq => ?_, ?_⟩
      · cases q with
        | zero => intro z; exact e (Option.some.inj z)
        | succ q => exact h3 q (by omega)
      · rw [List.erase_cons_tail (by simpa using e), ← h4]; rfl
namespace X
open Res
theorem ifw {α : Type} {c : Prop} [Decidable c] {q : Res α} {R : α → Prop} {E : Ex → Prop} (h : (if c then q else .no).wp R E) : c ∧ q.wp R E := by
  split at h
  · exact ⟨by assumption, h⟩
  · exact h.elim
theorem ifb {α β : Type} {c : Prop} [Decidable c] {q : Res α} {f : α → Res β} {R : β → Prop} {E : Ex → Prop} (h : ((if c then q else .no).bind f).wp R E) : c ∧ (q.bind f).wp R E := by
  split at h
  · exact ⟨by assumption, h⟩
  · exact h.elim
def flO (d : D) : Res D := if flat d = true then .ok d else .no
@[simp] theorem flO_non : flO .non = .ok .non := Eq.trans rfl rfl
@[simp] theorem flO_bl {b} : flO (.bl b) = .ok (.bl b) := Eq.trans rfl rfl
@[simp] theorem flO_int {b} : flO (.int b) = .ok (.int b) := Eq.trans rfl rfl
@[simp] theorem flO_str {b} : flO (.str b) = .ok (.str b) := Eq.trans rfl rfl
def flS : Sl → Res Sl
  | .ol es => if es.all flat = true then .ok (.ol es) else .no
  | _ => .no
def ePeek (i : Nat) (a : XE) : XE := ⟨DS.ePeek i a.m, fun s => (olS s i).bind fun ds => (a.f (s.set i (.sh (.lst ds)))).bind flO, a.z, fun r R h => by
  obtain ⟨ds, e, h⟩ := olw h
  refine ⟨ds, e, a.h ⟨r.sl.set i (.sh (.lst ds)), r.ew⟩ _ (wpb h fun d h => ?_)⟩
  unfold flO at h
  split at h
  · exact ⟨by assumption, h⟩
  · exact h.elim⟩
def tPeek (i : Nat) (a : XT) : XT := ⟨DS.tPeek i a.m, fun s => (olS s i).bind fun ds => a.f (s.set i (.sh (.lst ds))), a.z, fun r R h => by
  obtain ⟨ds, e, h⟩ := olw h
  exact ⟨ds, e, a.h ⟨r.sl.set i (.sh (.lst ds)), r.ew⟩ _ h⟩⟩
def fPeek (i : Nat) (a : XF) : XF := ⟨DS.fPeek i a.m, fun s => (olS s i).bind fun ds => (a.f (s.set i (.sh (.lst ds)))).bind flS, a.z, fun r R h => by
  obtain ⟨ds, e, h⟩ := olw h
  refine ⟨ds, e, a.h ⟨r.sl.set i (.sh (.lst ds)), r.ew⟩ _ (wpb h fun x h => ?_)⟩
  cases x with
  | ol es =>
    have h2 := ifw (show (if es.all flat = true then Res.ok (Sl.ol es) else .no).wp R r.ew from h)
    exact ⟨⟨es, rfl, h2.1⟩, h2.2⟩
  | _ => exact h.elim⟩
def remF (ds : List D) : D → Res (List D)
  | .int k => (of (intsD ds)).bind fun ns => if k ∈ ns then .ok ((ns.erase k).map .int) else .no
  | _ => .no
def sRem (i : Nat) (a : XE) : XS := ⟨DS.sRem i a.m, fun s => (olS s i).bind fun ds => (a.f s).bind fun z => (remF ds z).bind fun es => .ok (.nx (s.set i (.ol es))), a.z, fun W r h => by
  obtain ⟨ds, e, h⟩ := olw h
  refine ⟨ds, e, a.h r _ (wpb h fun z h => ?_)⟩
  cases z with
  | int k =>
    obtain ⟨ns, e2, h⟩ := ofb (show (((of (intsD ds)).bind fun ns => (if k ∈ ns then Res.ok ((ns.erase k).map D.int) else .no).bind fun es => Res.ok (Out.nx (r.sl.set i (.ol es))))).wp _ r.ew by
      cases q : intsD ds with
      | none => rw [show remF ds (.int k) = .no by unfold remF; rw [q]; rfl] at h; exact h.elim
      | some ns =>
        rw [show remF ds (.int k) = (if k ∈ ns then Res.ok ((ns.erase k).map D.int) else .no) by unfold remF; rw [q]; rfl] at h
        exact h)
    split at h
    · rename_i hk
      obtain ⟨j, h1, h2, h3⟩ := first_at hk
      exact ⟨ns, k, j, intsD_inv e2, rfl, h1, h2, by rw [h3]; exact h⟩
    · exact h.elim
  | _ => exact h.elim⟩
def asLst : List D → Res (List D)
  | [.tup ds] => .ok ds
  | [.lst ds] => .ok ds
  | _ => .no
@[simp] theorem asLst_tup {ds} : asLst [.tup ds] = .ok ds := Eq.trans rfl rfl
@[simp] theorem asLst_lst {ds} : asLst [.lst ds] = .ok ds := Eq.trans rfl rfl
def fToL (a : XA) : XF := ⟨DS.fToL a.m, fun s => (a.f s).bind fun xs => (asLst xs).bind fun ds => .ok (.ol ds), a.z, fun r R h => a.h r _ (wpb h fun xs h => by
  match xs, h with
  | [.tup ds], h => exact ⟨_, ds, rfl, .inl rfl, h⟩
  | [.lst ds], h => exact ⟨_, ds, rfl, .inr rfl, h⟩)⟩
def rgO (n : Int) : Res (List D) := if -(2 ^ 62) ≤ n ∧ n.toNat ≤ sizeLine then .ok (upto n.toNat) else .no
theorem rgO_nat {n : Nat} (h : n ≤ 16777216) : rgO ((n : Nat) : Int) = .ok (upto n) := by
  have p62 : (2 : Int) ^ 62 = 4611686018427387904 := by decide +kernel
  unfold rgO
  rw [if_pos ⟨by rw [p62]; omega, by rw [sizeLine_eq, Int.toNat_natCast]; exact h⟩, Int.toNat_natCast]
def fRg (a : XE) : XF := ⟨DS.fRg a.m, fun s => (a.f s).bind fun z => (asI z).bind fun n => (rgO n).bind fun ds => .ok (.ol ds), a.z, fun r R h => a.h r _ (wpb h fun z h => by
  obtain ⟨n, rfl, h⟩ := aiw h
  have h2 := ifb (show ((rgO n).bind _).wp _ _ from h)
  exact ⟨n, rfl, h2.1.1, h2.1.2, h2.2⟩)⟩
def eRg (a : XE) : XE := ⟨DS.eRg a.m, fun s => (a.f s).bind fun z => (asI z).bind fun n => (rgO n).bind fun ds => .ok (.lst ds), a.z, fun r R h => a.h r _ (wpb h fun z h => by
  obtain ⟨n, rfl, h⟩ := aiw h
  have h2 := ifb (show ((rgO n).bind _).wp _ _ from h)
  exact ⟨n, rfl, h2.1.1, h2.1.2, h2.2⟩)⟩
structure XY where
  m : WY
  f : List Sl → Res (D × List Sl)
  z : m.n = 0
  h : ∀ (r : Env) (R : D → Env → Prop), (f r.sl).wp (fun p => R p.1 ⟨p.2, r.ew⟩) r.ew → m.f r R
def pPop (i : Nat) (a : XE) : XY := ⟨DS.pPop i a.m, fun s => (olS s i).bind fun ds => (a.f s).bind fun z => (asI z).bind fun n => (of (ixN ds.length n)).bind fun j => (of ds[j]?).bind fun d => .ok (d, s.set i (.ol (ds.eraseIdx j))), a.z, fun r R h => by
  obtain ⟨ds, e, h⟩ := olw h
  refine ⟨ds, e, a.h r _ (wpb h fun z h => ?_)⟩
  obtain ⟨n, rfl, h⟩ := aiw h
  obtain ⟨j, q2, h⟩ := ofb h
  obtain ⟨d, q3, h⟩ := ofb h
  exact ⟨n, j, d, rfl, q2, q3, h⟩⟩
def pPop0 (i : Nat) : XY := ⟨DS.pPop0 i, fun s => (olS s i).bind fun ds => (of ds[ds.length - 1]?).bind fun d => .ok (d, s.set i (.ol ds.dropLast)), rfl, fun r R h => by
  obtain ⟨ds, e, h⟩ := olw h
  obtain ⟨d, q3, h⟩ := ofb h
  exact ⟨ds, d, e, q3, h⟩⟩
def sSetY (i : Nat) (a : XY) : XS := ⟨DS.sSetY i a.m, fun s => (a.f s).bind fun p => .ok (.nx (p.2.set i (.sh p.1))), a.z, fun W r h => a.h r _ (wpb h fun p h => h)⟩
def sAppY (i : Nat) (a : XY) : XS := ⟨DS.sAppY i a.m, fun s => (olS s i).bind fun _ => (a.f s).bind fun p => (olS p.2 i).bind fun ds => fit (ds.length + 1) (.ok (.nx (p.2.set i (.ol (ds ++ [p.1]))))), a.z, fun W r h => by
  obtain ⟨ds0, e, h⟩ := olw h
  refine ⟨⟨ds0, e⟩, a.h r _ (wpb h fun p h => ?_)⟩
  obtain ⟨ds, e2, h⟩ := olw h
  exact ⟨ds, e2, (fitw h).1, (fitw h).2⟩⟩
inductive XMP where
  | e (a : XE)
  | f (a : XF)
def XMP.mp : XMP → MP
  | .e a => .e a.m
  | .f a => .f a.m
def mF : List XMP → List Sl → Res (List Sl)
  | [], _ => .ok []
  | .e a :: ps, s => (a.f s).bind fun d => (mF ps s).bind fun zs => .ok (.sh d :: zs)
  | .f a :: ps, s => (a.f s).bind fun x => (mF ps s).bind fun zs => .ok (x :: zs)
def layL (s : List Sl) : List Nat → List Sl → List Sl
  | [], _ => s
  | i :: is, zs => match zs with
    | [] => s
    | z :: zs => layL (s.set i z) is zs
theorem layR_eq : ∀ (is : List Nat) (zs : List Sl) (r : Env), layR r is zs = ⟨layL r.sl is zs, r.ew⟩
  | [], [], r => rfl
  | [], _ :: _, r => rfl
  | i :: is, [], r => rfl
  | i :: is, z :: zs, r => layR_eq is zs (r.at i z)
theorem mF_w : ∀ (ps : List XMP) (r : Env) (R : List Sl → Prop), (mF ps r.sl).wp R r.ew → mPs (ps.map XMP.mp) r R
  | [], r, R, h => h
  | .e a :: ps, r, R, h => a.h r _ (wpb h fun d h => mF_w ps r _ (wpb h fun zs h => h))
  | .f a :: ps, r, R, h => a.h r _ (wpb h fun x h => mF_w ps r _ (wpb h fun zs h => h))
theorem nPs_0 : ∀ (ps : List XMP), nPs (ps.map XMP.mp) = 0
  | [] => rfl
  | .e a :: ps => by show a.m.n + nPs (ps.map XMP.mp) = 0; rw [a.z, nPs_0 ps]
  | .f a :: ps => by show a.m.n + nPs (ps.map XMP.mp) = 0; rw [a.z, nPs_0 ps]
def sMany (is : List Nat) (ps : List XMP) : XS := ⟨DS.sMany is (ps.map XMP.mp), fun s => (mF ps s).bind fun zs => if (is.all fun i => decide (i < s.length)) = true then .ok (.nx (layL s is zs)) else .no, nPs_0 ps, fun W r h => mF_w ps r _ (wpb h fun zs h => by
  split at h
  · rename_i hi
    exact ⟨fun i hm => by simpa using List.all_eq_true.mp hi i hm, by rw [layR_eq]; exact h⟩
  · exact h.elim)⟩
section
variable {i : Nat} {a : XE} {t : XT} {b : XF} {l : XA} {y : XY} {s : List Sl} {is : List Nat} {ps : List XMP}
@[simp] theorem ePeek_f : (ePeek i a).f s = (olS s i).bind fun ds => (a.f (s.set i (.sh (.lst ds)))).bind flO := Eq.trans rfl rfl
@[simp] theorem tPeek_f : (tPeek i t).f s = (olS s i).bind fun ds => t.f (s.set i (.sh (.lst ds))) := Eq.trans rfl rfl
@[simp] theorem fPeek_f : (fPeek i b).f s = (olS s i).bind fun ds => (b.f (s.set i (.sh (.lst ds)))).bind flS := Eq.trans rfl rfl
@[simp] theorem sRem_f : (sRem i a).f s = (olS s i).bind fun ds => (a.f s).bind fun z => (remF ds z).bind fun es => .ok (.nx (s.set i (.ol es))) := Eq.trans rfl rfl
@[simp] theorem fToL_f : (fToL l).f s = (l.f s).bind fun xs => (asLst xs).bind fun ds => .ok (.ol ds) := Eq.trans rfl rfl
@[simp] theorem fRg_f : (fRg a).f s = (a.f s).bind fun z => (asI z).bind fun n => (rgO n).bind fun ds => .ok (.ol ds) := Eq.trans rfl rfl
@[simp] theorem eRg_f : (eRg a).f s = (a.f s).bind fun z => (asI z).bind fun n => (rgO n).bind fun ds => .ok (.lst ds) := Eq.trans rfl rfl
@[simp] theorem pPop_f : (pPop i a).f s = (olS s i).bind fun ds => (a.f s).bind fun z => (asI z).bind fun n => (of (ixN ds.length n)).bind fun j => (of ds[j]?).bind fun d => .ok (d, s.set i (.ol (ds.eraseIdx j))) := Eq.trans rfl rfl
@[simp] theorem pPop0_f : (pPop0 i).f s = (olS s i).bind fun ds => (of ds[ds.length - 1]?).bind fun d => .ok (d, s.set i (.ol ds.dropLast)) := Eq.trans rfl rfl
@[simp] theorem sSetY_f : (sSetY i y).f s = (y.f s).bind fun p => .ok (.nx (p.2.set i (.sh p.1))) := Eq.trans rfl rfl
@[simp] theorem sAppY_f : (sAppY i y).f s = (olS s i).bind fun _ => (y.f s).bind fun p => (olS p.2 i).bind fun ds => fit (ds.length + 1) (.ok (.nx (p.2.set i (.ol (ds ++ [p.1]))))) := Eq.trans rfl rfl
@[simp] theorem sMany_f : (sMany is ps).f s = (mF ps s).bind fun zs => if (is.all fun i => decide (i < s.length)) = true then .ok (.nx (layL s is zs)) else .no := Eq.trans rfl rfl
@[simp] theorem mF_nil : mF [] s = .ok [] := Eq.trans rfl rfl
@[simp] theorem mF_e : mF (.e a :: ps) s = (a.f s).bind fun d => (mF ps s).bind fun zs => .ok (.sh d :: zs) := Eq.trans rfl rfl
@[simp] theorem mF_f : mF (.f b :: ps) s = (b.f s).bind fun x => (mF ps s).bind fun zs => .ok (x :: zs) := Eq.trans rfl rfl
@[simp] theorem layL_nil {zs} : layL s [] zs = s := by rw [layL]
@[simp] theorem layL_cons {z zs} : layL s (i :: is) (z :: zs) = layL (s.set i z) is zs := by rw [layL]
end
end X
end DS
/-! DS35: several targets by way of a tuple; an own list from a comprehension over an own list. -/
namespace DS
open PySem PySem.Spec PyProof.Rows L2
theorem gNamesT_of {Q : L2.St → Hp → Prop} {H : Hp} : ∀ {is : List Nat} {vs : List V} {σ : L2.St}, vs.length = is.length → Q (layS σ is vs) H → gNamesT is vs σ H Q
  | [], [], σ, _, h => ⟨rfl, h⟩
  | i :: is, v :: vs, σ, l, h => ⟨v, vs, rfl, gNamesT_of (by simpa using l) h⟩
theorem Ready.evo {K : PySem.W.Frag} {c : Co} {ad : Nat → Addr} {H0 H H' Hs : Hp} {r : Env} (e : Evo c H c H') (fr : ∀ b o, H b = some o → b ≠ c.sd → b ≠ c.sg → nT o → H' b = some o) {zs : List Sl} {vs : List V} (h : Ready K c ad H0 H r Hs zs vs) : Ready K c ad H0 H' r Hs zs vs := by
  induction h with
  | nil => exact .nil
  | sh a m h ih => exact .sh (a.evo e) m ih
  | own o hO ap ob f e1 t m h ih => exact .own o hO ap (ob.evo e fun o q t => fr _ _ q ap.n1 ap.n2 t) f e1 t m ih
theorem sem_manyU {K : PySem.W.Frag} {E : EX} {ps : List MP} {is : List Nat} {t : TA} (hl : is.length = ps.length) (h64 : ps.length ≤ 65536) (h : SemMs K E ps t) : SemS K E (sMany is ps) (tAsg (tTup t) (gTup K is.length (gNamesT is))) := by
  intro B c0 c ad H0 s H r W X cf bd hm k
  refine h B c0 c ad H0 s H r _ _ cf bd hm fun zs vs H' c' hR l l2 ev le fr tr cf2 rd => ?_
  refine ⟨by rw [l2]; exact le_sz h64, fun q hq => ?_⟩
  have s3 : Step 0 c' H' (upd H' q (.tup vs)) := Step.new cf2.inv hq
  have cf3 := cf2.step s3
  have rd3 := rd.evo (cf2.evo s3) s3.2
  have hv : vs.length = is.length := by rw [l2, hl]
  obtain ⟨ad2, cf4⟩ := Cf.layAll rd3 is s ad r cf3 (by rw [hl, l]) hR.1 fun q hq j z e o w => by
    have f := rd.fresh q hq
    obtain ⟨u, e1, t1⟩ := cf.dom _ (cf.own j z e o).1
    exact f.ne e1 t1 w
  refine ⟨q, vs, rfl, .inl (.inl upd_same), hv, gNamesT_of hv (k.nx c' ad2 _ _ _ (ev.trans (cf2.evo s3)) ?_ hR.2 cf4)⟩
  rw [trn_new cf2.inv hq]
  exact tr
/-- x, y, z = e1, e2, e3, some of them captured -/
theorem ds_manyU {g : G} {pos : Pos} (is : List Nat) {ts es : List Expr} {ps : List MP} {pt pt2 : Pos} {kt k2} (ha : DMs g es ps) (hg : NamesAt g ts is) (hl : is.length = ps.length := by rfl) (h64 : ps.length ≤ 65536 := by decide)
    (hn : ∀ env, (assignEach ts env).length = is.length := by intro _; rfl) (hst : ∀ env, (assignEach ts env).findIdx? (·.1) = none := by intro _; rfl)
    (hw : ∀ env : PySem.Env, env.scope = g.sc → swappedStores [.Tuple ts kt pt] (.Tuple es k2 pt2) env = pure none := by
      intro env h
      unfold swappedStores
      first | rfl | (simp only [Env.kindOf, Env.blockKind, h]; rfl) | (simp only [Env.kindOf, Env.blockKind, h]; decide +kernel))
    (hs : ∀ env, swapsWithSole [.Tuple ts kt pt] (.Tuple es k2 pt2) pos.line env = pure false := by intro _; rfl)
    (h1 : ∀ env, (assignEach [.Tuple ts kt pt] env).map (·.2) = [assign (.Tuple ts kt pt) env] := by intro _; rfl) :
    DSt g (.Assign [.Tuple ts kt pt] (.Tuple es k2 pt2) pos) (sMany is ps) := by
  obtain ⟨t, p⟩ := ha
  exact ⟨fun E => tAsg (tTup (t E)) (gTup g.K is.length (gNamesT is)), fun z ok => ⟨ps_asg (pe_tup (p z ok).1) (pg_tup rfl (hg.pgs ok) (hn _) (hst _)) (hs _) (hw _ ok.sc) (h1 _), sem_manyU hl h64 (p z ok).2⟩⟩
/-- x = [e for .. in y ..], y an own list; what comes is an own list of flat items -/
theorem ds_ownLcP {g : G} {pos : Pos} {elt tg iter : Expr} {ifs : List Expr} {scope : Scope} {mi : WI} {mg : WG} {mc : WT} {me : WE} {ws : List Nat} (own : List (Str × Nat)) (i k : Nat) {y : Str} {py spos : Pos} (hi : DI g tg iter mi) (hb : blkC g.N g.sc scope own = true)
    (hg : DG (g.blk scope) tg mg ws) (ht : DTs (g.blk scope) ifs mc) (he : DE (g.blk scope) elt me) (hv : ∀ i ∈ ws, i ∈ own.map (·.2) := by decide) (hN : g.N[i]? = some y := by rfl) (hy : g.sc.names.lookup y = some .local := by rfl) (hk : g.sc.kind = .function := by rfl)
    (hl : (py.line == pos.line) = true := by rfl) (ha : (scope.names.any fun (n, k) => n == y && (k == .local || k == .cell)) = false := by decide +kernel) (hs : ∀ env x, foldedSetIterable iter env x = pure x := by intro _ _; rfl) :
    DSt g (.Assign [.Name y py] (.ListComp elt [⟨tg, iter, ifs, 0⟩] scope pos) spos) (sOwn i (fPeek k (fLc mi mg mc me (own.map (·.2))))) := by
  obtain ⟨ti, pi⟩ := hi; obtain ⟨tg', pg⟩ := hg; obtain ⟨tt, pt⟩ := ht; obtain ⟨te, pe⟩ := he
  refine ⟨fun E => tAsg (tLc (ti E) (tg' E) (tt E) (te E) (own.map (·.2))) (gName i), fun z ok => ⟨?_, ?_⟩⟩
  · have hsc : z.env.scope = g.sc := ok.sc
    refine ps_setLc (X := g.cx z) rfl ok.nd hN (by show z.env.scope.names.lookup y = _; rw [hsc]; exact hy) (sw_true (by show z.env.scope.kind = _; rw [hsc]; exact hk) (by show z.env.scope.names.lookup y = _; rw [hsc]; exact hy) hl ha) (pi z ok).1 (blkOk_by (by show blkC g.N z.env.scope scope own = true; rw [hsc]; exact hb)) (fun s H C cl fp => ?_) (fun s H C cl fp => ?_) (fun s H C cl fp => ?_) (hs _)
    · exact (pg _ (blk_ok ok s H C cl fp)).1
    · exact (pt _ (blk_ok ok s H C cl fp)).1
    · exact (pe _ (blk_ok ok s H C cl fp)).1
  · have ok' := blk_ok (scope := scope) ok z.s0 z.H0 z.env.locals [] []
    exact sem_own (sem_fpeek (sem_flc hv (pi z ok).2 (pg _ ok').2 (pt _ ok').2 (pe _ ok').2))
end DS
/-! DS36: dicts that are written out; d[k], k a text or a number. -/
namespace DS
open PySem PySem.Spec PyProof.Rows L2
theorem merge_new : ∀ {more kvs : List (Key × V)}, ((kvs ++ more).map (·.1)).Nodup → mergeK kvs more = kvs ++ more
  | [], kvs, _ => by rw [List.append_nil]; rfl
  | q :: more, kvs, h => by
    show mergeK (putK kvs q.1 q.2) more = _
    have hn : (kvs.any fun kv => decide (kv.1 = q.1)) = false := by
      rw [List.any_eq_false]
      intro kv hkv
      rw [decide_eq_true_eq]
      intro e
      rw [List.map_append, List.nodup_append] at h
      exact h.2.2 kv.1 (List.mem_map.mpr ⟨kv, hkv, rfl⟩) q.1 List.mem_cons_self e
    have e : putK kvs q.1 q.2 = kvs ++ [q] := by unfold putK; rw [hn, if_neg Bool.false_ne_true]
    rw [e, merge_new (by rw [List.append_assoc]; exact h), List.append_assoc]
    rfl
/-- the values of a dict's display -/
def SemPr (K : PySem.W.Frag) (E : EX) (ks : List Key) (a : WA) (trs : List (TE × TE)) : Prop := ∀ B c0 c ad H0 s H r R Q, Cf K B c0 c ad H0 E s H r → trn c.sd H + a.n ≤ B → a.f r R →
  (∀ ds vs H', R ds → ds.length = ks.length → Step a.n c H H' → AtL K c H' vs ds → Q ((ks.zip vs).map fun kv => (kV kv.1, kv.2)) H') → tPairs trs s H Q
def DPr (g : G) (pos : Pos) (keys : List (Option Expr)) (values : List Expr) (ks : List Key) (a : WA) : Prop := ∃ t : EX → List (TE × TE), ∀ y, g.Ok y → PPs (g.cx y) pos keys values (t y.E) ∧ SemPr g.K y.E ks a (t y.E)
section
variable {g : G} {e : Expr} {m : WE} {a : WA} {pos : Pos} {keys : List (Option Expr)} {values : List Expr} {ks : List Key}
theorem dpr_nil : DPr g pos [] [] [] aNil := ⟨fun _ => [], fun y ok => ⟨pps_nil, fun B c0 c ad H0 s H r R Q cf bd hm k => k [] [] H hm rfl (Step.refl cf.inv) .nil⟩⟩
theorem sem_pr {K : PySem.W.Frag} {E : EX} {k : Key} {te : TE} {trs : List (TE × TE)} (he : SemE K E m te) (hr : SemPr K E ks a trs) : SemPr K E (k :: ks) (aCons m a) ((tC (kV k), te) :: trs) := by
  intro B c0 c ad H0 s H r R Q cf bd hm kk
  refine he B c0 c ad H0 s H r _ _ cf (bd1 bd) hm fun d v H1 hR s1 a1 => ?_
  refine hr B c0 c ad H0 s H1 r _ _ (cf.step s1) (bd2 bd s1.3) hR fun ds vs H2 hz l s2 a2 => ?_
  exact kk (d :: ds) (v :: vs) H2 hz (by simp [l]) (s1.trans s2) (.cons (a1.evo ((cf.step s1).evo s2)) a2)
theorem dpr_str {x : Str} {j} {p : Pos} (he : DE g e m) (hr : DPr g pos keys values ks a) : DPr g pos (some (.Constant (.str x) j p) :: keys) (e :: values) (.inr x :: ks) (aCons m a) :=
  let ⟨t, q⟩ := he; let ⟨t2, q2⟩ := hr; ⟨fun E => (tC (.str x), t E) :: t2 E, fun y ok => ⟨pps_cons pe_str (q y ok).1 (q2 y ok).1, sem_pr (k := .inr x) (q y ok).2 (q2 y ok).2⟩⟩
theorem dpr_int {x : Int} {j} {p : Pos} (he : DE g e m) (hr : DPr g pos keys values ks a) : DPr g pos (some (.Constant (.int x) j p) :: keys) (e :: values) (.inl x :: ks) (aCons m a) :=
  let ⟨t, q⟩ := he; let ⟨t2, q2⟩ := hr; ⟨fun E => (tC (.int x), t E) :: t2 E, fun y ok => ⟨pps_cons pe_int (q y ok).1 (q2 y ok).1, sem_pr (k := .inl x) (q y ok).2 (q2 y ok).2⟩⟩
/-- {k: e, ..} -/
def eDisp (ks : List Key) (a : WA) : WE := ⟨fun r R => a.f r fun ds => R (.dic ks ds), a.n⟩
theorem fst_zip {vs : List V} : ∀ {ks : List Key}, vs.length = ks.length → (ks.zip vs).map (·.1) = ks := fun {ks} h => by
  rw [List.map_fst_zip]; omega
theorem sem_disp {K : PySem.W.Frag} {E : EX} {trs : List (TE × TE)} (hn : ks.Nodup) (h15 : ks.length ≤ 15) (h : SemPr K E ks a trs) : SemE K E (eDisp ks a) (tDisp trs) := by
  intro B c0 c ad H0 s H r R Q cf bd hm k p hp
  have s1 : Step 0 c H (upd H p (.dK [])) := Step.new cf.inv hp
  have cf1 := cf.apart (Fr.of hp) s1 ⟨upd_same, nTK⟩
  have ap := cf.isApart (Fr.of hp)
  have t0 : trn c.sd (upd H p (.dK [])) = trn c.sd H := trn_new cf.inv hp
  refine h B c0 _ ad H0 s _ r _ _ cf1 (by show trn c.sd _ + _ ≤ B; rw [t0]; exact bd) hm fun ds vs H2 hR l s2 a2 => ?_
  have cf2 := cf1.step s2
  have e2 : H2 p = some (.dK []) := s2.2 p _ upd_same ap.n1 ap.n2 nTK
  have hl : vs.length = ks.length := by rw [a2.length, l]
  have zl : (ks.zip vs).length = ks.length := by rw [List.length_zip, hl, Nat.min_self]
  have fz := fst_zip hl
  have mz : mergeK [] (ks.zip vs) = ks.zip vs := merge_new (by rw [List.nil_append, fz]; exact hn)
  refine ⟨e2, ks.zip vs, rfl, by rw [zl]; exact h15, ?_⟩
  rw [mz]
  have hne : ∀ b o, H2 b = some o → b ≠ p → (upd H2 p (.dK (ks.zip vs))) b = some o := fun b o q n => by rw [upd_ne n]; exact q
  have old : ∀ b o, H b = some o → b ≠ p := fun b o q => ne_of_none q hp
  have inv3 : StInv c (upd H2 p (.dK (ks.zip vs))) := by
    obtain ⟨gg, cl, lf, tn, z1, z2, z3, z4, z5, z6, z7, z8, z9⟩ := cf2.inv
    exact ⟨gg, cl, lf, tn, hne _ _ z1 ap.n1.symm, hne _ _ z2 ap.n2.symm, hne _ _ z3 ap.n3.symm, z4, z5, z6, z7, z8, tabs_upd z9 e2 nTK nCK⟩
  have s3 : Step a.n c H (upd H2 p (.dK (ks.zip vs))) := by
    refine ⟨inv3, fun b o q n1 n2 t => hne b o (s2.2 b o ?_ n1 n2 t) (old b o q), ?_⟩
    · rw [upd_ne (old b o q)]; exact q
    · have := s2.3
      rw [show (c.with p).sd = c.sd from rfl, t0] at this
      rw [trn_same (upd_ne ap.n1.symm)]
      exact this
  have ev : Evo (c.with p) H2 c (upd H2 p (.dK (ks.zip vs))) := ⟨rfl, fun b o q _ n => ⟨hne b o q fun z => n (.inr z), fun z => n (.inl z)⟩⟩
  have sz : sizeLine = 16777216 := sizeLine_eq
  have at3 := At.dic (K := K) (c := c) (H := upd H2 p (.dK (ks.zip vs))) (a := p) (kvs := ks.zip vs) (vs := ds) ⟨.inl upd_same, cf.free hp⟩ (by rw [zl]; omega) (by
    rw [List.map_snd_zip (by omega)]
    exact a2.evo ev)
  rw [fz] at at3
  exact k _ _ _ hR s3 at3
theorem de_disp (h : DPr g pos keys values ks a) (hn : ks.Nodup := by decide +kernel) (h15 : ks.length ≤ 15 := by decide) (hall : keys.all (·.isSome) = true := by rfl) (hl : keys.length = values.length := by rfl) (h0 : keys ≠ [] := by simp) (hk : keys.length ≤ 15 := by decide) :
    DE g (.Dict keys values pos) (eDisp ks a) :=
  let ⟨t, q⟩ := h; ⟨fun E => tDisp (t E), fun y ok => ⟨pe_disp (q y ok).1 hall hl h0 hk, sem_disp hn h15 (q y ok).2⟩⟩

/-! ### d[k] -/
def findK : List Key → List D → Key → Option D
  | k :: ks, v :: vs, x => if k = x then some v else findK ks vs x
  | _, _, _ => none
def keyO : D → Option Key
  | .int i => some (.inl i)
  | .str x => some (.inr x)
  | _ => none
def ixK (x y : D) : Option D := match x with
  | .dic ks vs => (keyO y).bind fun k => findK ks vs k
  | _ => none
theorem findK_val {K : PySem.W.Frag} {c : Co} {H : Hp} {k : Key} {d : D} : ∀ {kvs : List (Key × V)} {ds : List D}, AtL K c H (kvs.map (·.2)) ds → findK (kvs.map (·.1)) ds k = some d → ∃ v, valV kvs k = some v ∧ At K c H v d
  | [], _, .nil, h => by cases h
  | q :: kvs, e :: ds, .cons a t, h => by
    have h : (if q.1 = k then some e else findK (kvs.map (·.1)) ds k) = some d := h
    by_cases hq : q.1 = k
    · rw [if_pos hq] at h
      cases h
      exact ⟨q.2, valV_pos hq, a⟩
    · rw [if_neg hq] at h
      obtain ⟨v, h1, h2⟩ := findK_val t h
      exact ⟨v, by rw [valV_neg hq]; exact h1, h2⟩
theorem keyO_at {K : PySem.W.Frag} {c : Co} {H : Hp} {y : D} {u : V} {k : Key} (h : keyO y = some k) (a : At K c H u y) : u = kV k := by
  cases a with
  | int i => cases h; rfl
  | str x hx => cases h; rfl
  | _ => cases h
theorem de_ixK {o i : Expr} {mo mi : WE} (ho : DE g o mo) (hi : DE g i mi) (hs : NoSl i := by exact fun _ _ => rfl) : DE g (.Subscript o i pos) (eOp ixK mo mi) := by
  obtain ⟨t, q⟩ := ho
  obtain ⟨t2, q2⟩ := hi
  refine ⟨fun E => tDGet (t E) (t2 E), fun y ok => ⟨pe_dget (hu_of ok.room) (q y ok).1 (q2 y ok).1 hs, ?_⟩⟩
  intro B c0 c ad H0 s H r R Q cf bd hm k
  refine (q y ok).2 B c0 c ad H0 s H r _ _ cf (bd1 bd) hm fun x v H1 hx s1 a1 => ?_
  refine (q2 y ok).2 B c0 c ad H0 s H1 r _ _ (cf.step s1) (bd2 bd s1.3) hx fun z u H2 hz s2 a2 => ?_
  obtain ⟨d, hd, hR⟩ := hz
  have a1' := a1.evo ((cf.step s1).evo s2)
  cases x with
  | dic ks vs =>
    have hd : ((keyO z).bind fun k => findK ks vs k) = some d := hd
    cases ek : keyO z with
    | none => rw [ek] at hd; cases hd
    | some kk =>
      rw [ek] at hd
      have hu := keyO_at ek a2
      subst hu
      cases a1' with
      | @dic p kvs _ h l b =>
        obtain ⟨w, h1, h2⟩ := findK_val b hd
        exact ⟨p, w, rfl, .inl ⟨kvs, kk, h.1, rfl, h1.symm⟩, k d w H2 hR (s1.trans s2) h2⟩
  | _ => cases hd
end
namespace X
open Res
def eDisp (ks : List Key) (a : XA) : XE := ⟨DS.eDisp ks a.m, fun s => (a.f s).bind fun ds => .ok (.dic ks ds), a.z, fun r R h => a.h r _ (wpb h fun ds h => h)⟩
@[simp] theorem eDisp_f {ks : List Key} {a : XA} {s : List Sl} : (eDisp ks a).f s = (a.f s).bind fun ds => .ok (.dic ks ds) := Eq.trans rfl rfl
end X
end DS
/-! DS37: sorted(x), x a list or a tuple of texts. -/
namespace DS
open PySem PySem.Spec PyProof.Rows L2
section
variable {X : Cx}
def rSortT (K : PySem.W.Frag) : List V → Hp → VK → Prop := fun xs H Q => ∃ (a : Addr) (zs : List Str), xs = [.ref a] ∧ (SqL K H a (zs.map V.str) ∨ SqT K H a (zs.map V.str)) ∧ zs.length ≤ sizeLine ∧ ∀ ys p, ys.Perm zs → sortedS ys = true → H p = none → Q (.ref p) (upd H p (.lst (ys.map V.str)))
theorem cr_sortT : CallR X (.builtin "sorted") (rSortT X.K) := by
  intro pins s σ H xs us Q I r q
  obtain ⟨a, zs, ex, hq, hz, q⟩ := q
  subst ex
  obtain ⟨u, eu, rx⟩ := vals1 r
  subst eu
  cases rx
  have go : ∀ (T : String) (o : Obj) (its : List Value) (n : Nat), T = "list" ∨ T = "tuple" → s.heap.get? a = some o → o.cls = .type T → o.data = .seq its.toArray n → Vals (zs.map V.str) its →
      wpAny (model X.prog X.w) X.A (call (.builtin "sorted") [.ref a]) (EP X pins σ Q) X.xe s := fun T o its n hT ho hc hd rv => by
    have hS := rv.strs
    have hal : its.length = zs.length := by
      have z := rv.length
      rw [List.length_map] at z
      exact z.symm
    refine Calls.call_function_entry PyProof.Rows.kind_sorted PyProof.Rows.plain_sorted PyProof.Rows.entry_sorted (PyProof.Rows.args_sorted1 _) ?_
    unfold Builtin.«sorted»
    refine wpAny_bind (m := checkCount "sorted" 1 1 _) (wpAny_pure ?_)
    refine wpAny_bind (wpAny_collect_seq a hT ho hc hd (fun h' hk => ?_) (by rw [List.size_toArray, hal]; exact hz))
    have I1 : Inv X pins σ H { s with heap := h' } := I.kept hk
    show wpAny _ _ (newList its >>= _) _ _ _
    refine wpAny_bind (wpAny_newList ?_ (by rw [hal]; exact hz))
    have hoL : (h'.push (seqObj "list" its.toArray 0)).get? h'.objs.size = some (seqObj "list" its.toArray 0) := Heap.get?_push_size _ rfl
    refine wpAny_bind (wpAny_holding (wpAny_call_entry PyProof.Rows.slot_list_sort ⟨_, hoL, rfl⟩ PyProof.Rows.entry_list_sort
      (list_sort_treeKAny strKind_oneLt (s := { s with heap := h'.push (seqObj "list" its.toArray 0) }) hoL hS.keysOf (fun v₁ v₂ rest e => keyKind_strs (by rw [← e]; exact hS)) (by rw [hal]; exact hz) fun st' hp hs => ⟨_, rfl, ?_⟩) (PyProof.Rows.args_list_sort _)))
    obtain ⟨ys, g1, g2, g3⟩ := sorted_out_str hS hp hs
    obtain ⟨e', he'⟩ := PyProof.Rows.sortedHeap_at (vs := its) (out := (arrOf st').map (·.2)) hoL
    have hlen : (ys.map V.str).length ≤ sizeLine := by rw [List.length_map, g2.length_eq]; exact hz
    refine wpAny_pure ⟨_, rfl, .ref h'.objs.size, upd H h'.objs.size (.lst (ys.map V.str)), I1.laid (t' := s.toks) (fun b u e => ?_) (Nat.le_refl _)
      (show ObjOk X.prog X.w _ _ _ (.lst (ys.map V.str)) from ⟨hlen, ((arrOf st').map (·.2)).toList, e', vals_of_strs g1, by rw [Array.toArray_toList]; exact he'⟩), rfl, q ys _ g2 g3 (I1.hok.fresh (Nat.le_refl _))⟩
    rw [PyProof.Rows.sortedHeap_old (Nat.ne_of_lt (Heap.lt_size e)) (by rw [size_push']; exact Nat.lt_succ_of_lt (Heap.lt_size e))]
    exact Heap.get?_push_of_some _ e
  rcases hq with hq | hq
  · obtain ⟨its, rv, hl, _⟩ := I.list hq
    obtain ⟨o, ho, hc, n, hd⟩ := hl.isList
    exact go "list" o its n (.inl rfl) ho hc hd rv
  · obtain ⟨its, rv, hl, _⟩ := I.tuple hq
    obtain ⟨o, ho, hc, n, hd⟩ := hl
    exact go "tuple" o its n (.inr rfl) ho hc hd rv
end

def sleS (a b : Str) : Prop := a.cps.toList ≤ b.cps.toList
instance : DecidableRel sleS := fun a b => inferInstanceAs (Decidable (a.cps.toList ≤ b.cps.toList))
theorem sleS_of {a b : Str} (h : ltCps b.cps.toList a.cps.toList = false) : sleS a b := by
  rw [ltCps_eq, decide_eq_false_iff_not] at h
  exact h
theorem sleS_trans {a b c : Str} (h : sleS a b) (h2 : sleS b c) : sleS a c := List.le_trans h h2
theorem sleS_anti {a b : Str} (h : sleS a b) (h2 : sleS b a) : a = b := str_ext (List.le_antisymm h h2)
theorem sleS_total (a b : Str) : sleS a b ∨ sleS b a := List.le_total _ _
theorem rising_pw : ∀ {p : Str} {l : List Str}, risingS p l = true → (p :: l).Pairwise sleS
  | p, [], _ => List.pairwise_singleton _ _
  | p, x :: r, h => by
    have h : (!ltCps x.cps.toList p.cps.toList && risingS x r) = true := h
    rw [Bool.and_eq_true, Bool.not_eq_true'] at h
    have h1 := sleS_of h.1
    have h2 := rising_pw h.2
    refine List.pairwise_cons.mpr ⟨fun y hy => ?_, h2⟩
    rcases List.mem_cons.mp hy with rfl | hy
    · exact h1
    · exact sleS_trans h1 ((List.pairwise_cons.mp h2).1 y hy)
theorem sortedS_pw {l : List Str} (h : sortedS l = true) : l.Pairwise sleS := by
  cases l with
  | nil => exact List.Pairwise.nil
  | cons x r => exact rising_pw h
/-- texts in order -/
def sortS (zs : List Str) : List Str := zs.mergeSort fun a b => decide (sleS a b)
theorem sortS_perm (zs : List Str) : (sortS zs).Perm zs := List.mergeSort_perm zs _
theorem sortS_pw (zs : List Str) : (sortS zs).Pairwise sleS := by
  have h : (sortS zs).Pairwise fun a b => decide (sleS a b) = true := List.pairwise_mergeSort (le := fun a b : Str => decide (sleS a b)) (fun a b c h1 h2 => by rw [decide_eq_true_eq] at *; exact sleS_trans h1 h2) (fun a b => by rw [Bool.or_eq_true, decide_eq_true_eq, decide_eq_true_eq]; exact sleS_total a b) zs
  exact h.imp fun h => of_decide_eq_true h
theorem sortS_of {ys zs : List Str} (h : ys.Perm zs) (hp : ys.Pairwise sleS) : ys = sortS zs :=
  List.Perm.eq_of_pairwise (le := sleS) (fun a b _ _ h1 h2 => sleS_anti h1 h2) hp (sortS_pw zs) (h.trans (sortS_perm zs).symm)
def sortedSD : List D → Option D
  | [.lst ds] => (strsD ds).map fun zs => .lst ((sortS zs).map .str)
  | [.tup ds] => (strsD ds).map fun zs => .lst ((sortS zs).map .str)
  | _ => none
theorem s_sortedS {K : PySem.W.Frag} : SemC K sortedSD (rSortT K) := by
  intro c H vs ds z Q ho a e k
  have fin : ∀ (q : Addr) (xs : List V) (es : List D), (SqL K H q xs ∨ SqT K H q xs) → xs.length ≤ sizeLine → AtL K c H xs es → (strsD es).map (fun zs => D.lst ((sortS zs).map .str)) = some z → rSortT K [.ref q] H Q := fun q xs es hq l r e => by
    cases ez : strsD es with
    | none => rw [ez] at e; cases e
    | some zs =>
      rw [ez] at e
      cases e
      rw [strsD_inv ez] at r
      have sk := r.soks
      have exs := r.strs
      subst exs
      rw [List.length_map] at l
      refine ⟨q, zs, rfl, hq, l, fun ys p hp hs hn => ?_⟩
      have ey := sortS_of hp (sortedS_pw hs)
      rw [ey]
      exact k _ _ (ho.new hn) (ho.lst hn (by rw [List.length_map, (sortS_perm zs).length_eq]; exact l) (AtL.of_strs _ fun b hb => sk b ((sortS_perm zs).mem_iff.mp hb)))
  match ds, a, e with
  | [.lst ds], .cons (.lst h l r) .nil, e => exact fin _ _ ds (.inl h.sq) l r e
  | [.tup ds], .cons (.tup h l r) .nil, e => exact fin _ _ ds (.inr h.sq) l r e
/-- sorted(x): whole numbers or texts -/
def sortedAD (x : List D) : Option D := (sortedSD x).or (sortedID x)
theorem s_sortedA {K : PySem.W.Frag} : SemC K sortedAD (fun x H Q => rSortT K x H Q ∨ rSortedI K x H Q) := s_sortedS.or' s_sortedI
theorem cr_sortedA {X : Cx} : CallR X (.builtin "sorted") (fun x H Q => rSortT X.K x H Q ∨ rSortedI X.K x H Q) := cr_sortT.or cr_sortedI
theorem sortedAD_strs (zs : List Str) : sortedAD [.lst (zs.map .str)] = some (.lst ((sortS zs).map .str)) := by
  show Option.or ((strsD (zs.map .str)).map fun zs => D.lst ((sortS zs).map .str)) _ = _
  rw [strsD_map]; rfl
theorem sortedAD_strsT (zs : List Str) : sortedAD [.tup (zs.map .str)] = some (.lst ((sortS zs).map .str)) := by
  show Option.or ((strsD (zs.map .str)).map fun zs => D.lst ((sortS zs).map .str)) _ = _
  rw [strsD_map]; rfl
end DS
/-! DS38: len(set(x)), x a tuple of texts. -/
namespace DS
open PySem PySem.Spec PyProof.Rows L2
/-- each once, in the order of their first places -/
def onceN {κ : Type} [DecidableEq κ] (σ : List κ) (v : κ) : List κ := if v ∈ σ then σ else σ ++ [v]
def metN {κ : Type} [DecidableEq κ] (val : Nat → κ) : Nat → List κ
  | 0 => []
  | i + 1 => onceN (metN val i) (val i)
theorem metN_le {κ : Type} [DecidableEq κ] (val : Nat → κ) : ∀ i, (metN val i).length ≤ i
  | 0 => Nat.le_refl _
  | i + 1 => by
    have ih := metN_le val i
    show (onceN (metN val i) (val i)).length ≤ i + 1
    unfold onceN
    split
    · omega
    · rw [List.length_append, List.length_singleton]; omega
theorem once_mem {κ : Type} [DecidableEq κ] (σ : List κ) (v k : κ) : decide (k ∈ onceN σ v) = (decide (k ∈ σ) || decide (k = v)) := by
  unfold onceN
  split
  · rename_i h
    by_cases e : k = v
    · subst e; simp [h]
    · simp [e]
  · simp
theorem once_len {κ : Type} [DecidableEq κ] (σ : List κ) (v : κ) : (onceN σ v).length = if decide (v ∈ σ) = true then σ.length else σ.length + 1 := by
  unfold onceN
  by_cases h : v ∈ σ
  · simp [h]
  · simp [h]
section
variable {prog : Program} {w : World} {A : Around} {E : Value → Shared → Prop} {s : Shared} {κ : Type} [DecidableEq κ] {knd : KeyKind prog w κ}
theorem setOf_eq {h : Heap} {a : Addr} {S S' : κ → Bool} {n n' : Nat} (q : h.SetOf knd a S n) (e : ∀ k, S k = S' k) (en : n = n') : h.SetOf knd a S' n' := by
  cases funext e; cases en; exact q
theorem setOf_stand {h h' : Heap} {a : Addr} {S : κ → Bool} {n : Nat} (q : h.SetOf knd a S n) (e : ∀ o, h.get? a = some o → h'.get? a = some o) : h'.SetOf knd a S n := by
  obtain ⟨o, es, ep, t, ho, rest⟩ := q; exact ⟨o, es, ep, t, e o ho, rest⟩
theorem set_loop {R : Result → Shared → Prop} {I : Addr} {fp wr : List Addr} {G : Array GenState → Array GenState → Prop} {n : Nat} {P : Nat → Value → Prop} {St : Nat → Shared → Prop} (W : WalksS prog w A.in1 I fp wr G n P St) (S : Addr) (hSf : S ∉ fp) (val : Nat → κ)
    (hval : ∀ i v, P i v → knd.is (val i) v = true ∧ v.scannable = true) (hb : n + 1 < scanBound) : ∀ (k i : Nat) (s : Shared), n - i = k → i ≤ n → St i s → s.heap.SetOf knd S (fun z => decide (z ∈ metN val i)) (metN val i).length →
      (∀ s', Moved (S :: wr) G s s' → s'.heap.SetOf knd S (fun z => decide (z ∈ metN val n)) (metN val n).length → R (.ok (.ret .none)) s') → codeAny (model prog w) A (.builtin "set.update.loop" ⟨[.ref S, .ref I], []⟩) R s := by
  have hSw : S ∉ wr := fun h => hSf (W.sub _ h)
  have sub' : ∀ b ∈ wr, b ∈ S :: wr := fun b hb => List.mem_cons_of_mem _ hb
  intro k
  induction k with
  | zero =>
    intro i s hk hi hst hS hR
    obtain rfl : i = n := by omega
    refine codeAny_builtin PyProof.Rows.F.entry_set_update_loop ?_
    rw [Around.under_plainId PyProof.Rows.F.plain_set_update_loop _]; show wpAny _ A.in1 (pyNext (.ref I) >>= _) _ _ s
    exact wpAny_bind (W.done s _ _ hst fun s' hm => wpAny_pure (hR s' (hm.mono sub') (setOf_stand hS fun o ho => hm.heap S _ hSw ho)))
  | succ k ih =>
    intro i s hk hi hst hS hR
    have lt : i < n := by omega
    refine codeAny_builtin PyProof.Rows.F.entry_set_update_loop ?_
    rw [Around.under_plainId PyProof.Rows.F.plain_set_update_loop _]; show wpAny _ A.in1 (pyNext (.ref I) >>= _) _ _ s
    refine wpAny_bind (W.item i s _ _ lt hst fun v s' hP hst' hm => ?_)
    obtain ⟨hv, hsc⟩ := hval i v hP
    have hS' := setOf_stand hS fun o ho => hm.heap S _ hSw ho
    show wpAny _ A.in1 (holding [v] (setAdd S v) >>= _) _ _ s'
    refine wpAny_bind (wpAny_holding ?_)
    unfold setAdd
    refine wpAny_holding (wpAny_bind (knd.pyHash (k := val i) hv ?_))
    have room : (metN val i).length + 1 < scanBound := by have := metN_le val i; omega
    refine wpAny_setAddHashed_of (knd := knd) (s := { s' with toks := s'.toks + 1 }) hv hsc hS' room fun h' hsb hS2 => ?_
    have hSi : h'.SetOf knd S (fun z => decide (z ∈ metN val (i + 1))) (metN val (i + 1)).length := setOf_eq hS2 (fun z => (once_mem _ _ _).symm) (once_len _ _).symm
    refine wpAny_pure ⟨plainId_quiet PyProof.Rows.F.plain_set_update_loop _, ih (i + 1) _ (by omega) lt (W.frame _ s' _ _ hst' (Nat.le_succ _) fun b hb o e => ?_) hSi fun s'' hm'' hS'' => hR s'' (Moved.trans W.gtrans ((hm.mono sub').then_heap (Nat.le_succ _) fun b o hb e => ?_) hm'') hS''⟩
    · rw [hsb.2 b (fun z : b = S => hSf (by rw [← z]; exact hb))]; exact e
    · rw [hsb.2 b (fun z : b = S => hb (by rw [z]; exact List.mem_cons_self))]; exact e

/-- a set that was just made -/
@[reducible] def so0 (led : Bool) : Obj := { cls := .type "set", dict := none, data := .set #[] 0 (.fresh 0 0 led) }
@[reducible] def hp0 (s : Shared) (led : Bool) : Heap := s.heap.push (so0 led)
theorem call_setN {l : Addr} {items : Array Value} {val : Nat → κ} {Q : Value → Shared → Prop} (hh : A.handled = none) (hl : s.heap.IsTuple l items) (hi : ∀ i v, items[i]? = some v → knd.is (val i) v = true ∧ v.scannable = true) (hb : items.size + 1 < scanBound)
    (h : ∀ (h' : Heap) (tk : Nat), h'.SetOf knd s.heap.objs.size (fun z => decide (z ∈ metN val items.size)) (metN val items.size).length → (∀ b o, b < s.heap.objs.size → s.heap.get? b = some o → h'.get? b = some o) → Q (.ref s.heap.objs.size) { s with heap := h', toks := tk }) :
    wpAny (model prog w) A (call (.type "set") [.ref l]) Q E s := by
  obtain ⟨c, tl, hmro⟩ := PySem.F.called_set.mro; have hmade := PySem.F.called_set.made; have hsub := PySem.F.called_set.sub
  refine wpAny_call (codeAny_of_tree ?_)
  show wpAny _ _ (callAny (.type "set") _) _ _ _
  refine wpAny_pure ⟨Code.quiet_builtin _ (by decide +kernel), codeAny_builtin PySem.F.entry_type_call ?_⟩
  rw [Around.under_plain (weight_type_call_type "set" [.ref l] []) rfl]
  have h1 := PySem.F.called_set.notType; have h2 := PySem.F.called_set.canCreate; have hct := PySem.F.typeCall_set_1 (.ref l)
  repeat (any_goals (first | assumption | wp_step))
  refine codeAny_mono (code_set_new_1 (.ref l) (E := E) (Q₁ := fun obj s₁ => ∃ led : Bool, obj = .ref s.heap.objs.size ∧ s₁ = { s with heap := hp0 s led }) fun led => ⟨led, rfl, rfl⟩) fun r s₁ hr => ?_
  match r, hr with
  | .error e, hr => exact hr
  | .ok (.ret obj), hr =>
    obtain ⟨led, rfl, rfl⟩ := hr
    have hS : (hp0 s led).get? s.heap.objs.size = some (so0 led) := Heap.get?_push_size _ rfl
    have hT : Shared.TypeIs { s with heap := hp0 s led } (.ref s.heap.objs.size) "set" := ⟨_, hS, rfl⟩
    have hli := PySem.F.called_set.init.lookup; have hbi := PySem.F.called_set.init.bind (.ref s.heap.objs.size)
    repeat (any_goals (first | assumption | wp_step))
    refine codeAny_mono (codeAny_call_builtin (R := wants (fun r s₂ => r = .none ∧ ∃ h' tk, s₂ = { s with heap := h', toks := tk } ∧ h'.SetOf knd s.heap.objs.size (fun z => decide (z ∈ metN val items.size)) (metN val items.size).length ∧ (∀ b o, b < s.heap.objs.size → s.heap.get? b = some o → h'.get? b = some o)) E)
      PySem.F.called_set.init.plain PySem.F.entry_set_init (check_set_init_1 hT ?_)) fun r₂ s₂ hr₂ => ?_
    · obtain ⟨ol, hol, hcl, nl, hdl⟩ := hl
      obtain ⟨ocls, odict, odata, oslots⟩ := ol
      simp only at hcl hdl
      cases hcl; cases hdl
      have hol' := Heap.get?_push_of_some (so0 led) hol
      have hsls := PySem.F.sub_tuple_set; have hslf := PySem.F.sub_tuple_frozenset; have hne : (Value.type "tuple" == Value.type "dict") = false := by decide
      have hl1 : (hp0 s led).IsTuple l items := ⟨_, hol', rfl, nl, rfl⟩
      unfold Builtin.«set.__init__» noKeywords Builtin.Frozenset.updateFrom
      generalize hPI : pyIter = PI
      wp_walk
      subst hPI
      refine wpAny_pyIter_tuple hl1 (wpAny_bind (wpAny_runValue ?_))
      have hlS : l < s.heap.objs.size := Heap.lt_size hol
      have hh3 : A.in1.in1.in1.handled = none := by simp [hh]
      have z1 : (hp0 s led).objs.size = s.heap.objs.size + 1 := Heap.size_push ..
      have hneI : l ≠ (hp0 s led).objs.size := by rw [z1]; exact Nat.ne_of_lt (Nat.lt_succ_of_lt hlS)
      have hSf : s.heap.objs.size ∉ [(hp0 s led).objs.size, l] := by
        rw [z1]; simp only [List.mem_cons, List.not_mem_nil, or_false, not_or]; exact ⟨Nat.ne_of_lt (Nat.lt_succ_self _), Nat.ne_of_gt hlS⟩
      refine set_loop ((Walks.tuple hh3 _ l hneI items).toS) s.heap.objs.size hSf val (fun i v hv => hi i v hv) hb (items.size - 0) 0 _ (by omega) (Nat.zero_le _) ⟨⟨_, Heap.get?_push_size _ rfl, rfl, rfl⟩, (hl1.push _)⟩ ?hS0 ?hR
      case hS0 =>
        exact setOf_eq ((PyProof.Rows.setObjOf_fresh (knd := knd) led).setOf (Heap.get?_push_of_some _ hS) (by unfold scanBound; omega)) (fun _ => by simp [metN]) rfl
      case hR =>
        intro s' hm hS'
        obtain ⟨h', g', d', tk', os'⟩ := s'
        obtain rfl : g' = s.gens := hm.gens
        obtain rfl : d' = s.drawn := hm.drawn
        obtain rfl : os' = s.os := hm.os
        show wpAny _ _ _ _ _ _
        refine wpAny_pure ?_
        show wpAny _ _ (ret Value.none) _ _ _
        refine wpAny_pure ⟨rfl, h', tk', rfl, hS', fun b o hb e => ?_⟩
        refine hm.heap b o ?_ (Heap.get?_push_of_some _ (Heap.get?_push_of_some _ e))
        simp only [List.mem_cons, List.not_mem_nil, or_false, not_or, z1]; exact ⟨Nat.ne_of_lt hb, Nat.ne_of_lt (Nat.lt_succ_of_lt hb)⟩
    · match r₂, hr₂ with
      | .error e, hr₂ => exact hr₂
      | .ok (.ret r), hr₂ =>
        obtain ⟨rfl, h', tk, rfl, hS', hk'⟩ := hr₂
        repeat (any_goals (first | assumption | wp_step))
        exact h _ _ hS' hk'
end
end DS
/-! DS39: len(set(x)), x a tuple of texts, as an expression. -/
namespace DS
open PySem PySem.Spec PyProof.Rows L2
def lenSetD : List D → Option D
  | [.tup ds] => (strsD ds).bind fun zs => if zs.length ≤ 4000 then some (.int ((zs.foldl onceN []).length : Nat)) else none
  | _ => none
def tLenSetT (K : PySem.W.Frag) (ta : TE) : TE := fun σ H Q => ta σ H fun x H1 => ∃ (l : Addr) (zs : List Str), x = .ref l ∧ SqT K H1 l (zs.map V.str) ∧ zs.length ≤ 4000 ∧ Q (.int ((zs.foldl onceN []).length : Nat)) H1
theorem met_fold {κ : Type} [DecidableEq κ] (d : κ) (zs : List κ) : ∀ n, n ≤ zs.length → metN (fun i => zs.getD i d) n = (zs.take n).foldl onceN []
  | 0, _ => by rw [List.take_zero]; rfl
  | n + 1, h => by
    have hn : n < zs.length := h
    show onceN (metN _ n) (zs.getD n d) = _
    rw [met_fold d zs n (Nat.le_of_lt hn), List.take_succ_eq_append_getElem hn, List.foldl_append, List.getD_eq_getElem?_getD, List.getElem?_eq_getElem hn]
    rfl
theorem pe_lenSetT {X : Cx} {a : Expr} {ta : TE} {p p2 q pos : Pos} (hc : X.calm = true) (hg : Gl X "len") (hm : X.mg "len" = none) (hg2 : Gl X "set") (hm2 : X.mg "set" = none) (ha : PE X a ta)
    (na : starEach [a] X.env = (false, eval a X.env) :: starEach [] X.env := by rfl) : PE X (.Call (.Name "len" p) [.Call (.Name "set" p2) [a] [] q] [] pos) (tLenSetT X.K ta) := by
  refine ⟨fun pins s σ H Q I h => Call_ (ld_blt I hg hm PySem.boot_len (PyProof.Rows.callWith_builtin1 (PyProof.Rows.args_cons (Call_ (ld_blt I hg2 hm2 PyProof.Rows.boot_set ?_)) rfl) rfl rfl))⟩
  refine PyProof.Rows.callWith_type1 (PyProof.Rows.args_cons (thn (ha.run pins s σ H _ I h) fun v s1 ⟨x, H1, I1, r1, q1⟩ => PyProof.Rows.args_nil ?_) na) na rfl
  obtain ⟨l, zs, rfl, hq, h4, q1⟩ := q1
  cases r1
  obtain ⟨its, r, pl, hz⟩ := I1.tuple hq
  have hl : its.toArray.size = zs.length := by rw [List.size_toArray, ← r.length, List.length_map]
  have hS := r.strs
  refine call_setN (knd := PySem.strKind X.prog X.w) (val := fun i => zs.getD i Str.empty) (I1.ok.hd hc) pl (fun i v hv => ?_) (by rw [hl]; unfold scanBound; omega) fun h' tk hS hk => ?_
  · obtain ⟨t, rfl⟩ := SS.strs_at hS i v (by rw [← Array.getElem?_toList] at hv; exact hv)
    exact ⟨PySem.strKind_is _ _ _ _, rfl⟩
  · have e : metN (fun i => zs.getD i Str.empty) its.toArray.size = zs.foldl onceN [] := by rw [hl, met_fold _ zs _ (Nat.le_refl _), List.take_length]
    rw [e] at hS
    have le := metN_le (fun i => zs.getD i Str.empty) its.toArray.size
    rw [e, hl] at le
    refine PyProof.Rows.args_nil ?_
    obtain ⟨o, es, ep, t, ho, hex, hd, _, _, _, hf, hn⟩ := hS
    have I2 : Inv X pins σ H1 { s1 with heap := h', toks := tk } := I1.kept fun b o e => hk b o (Heap.lt_size e) e
    exact call_len_set ho hex hd hf (by rw [hn]; omega) ⟨.int ((zs.foldl onceN []).length : Nat), H1, I2.tok _, ⟨_, by rw [hn]⟩, q1⟩
theorem de_lenSet {g : G} {a : Expr} {m : WE} {p p2 q pos : Pos} (hm : g.mg "len" = none) (hm2 : g.mg "set" = none) (h : DE g a m) (hg : g.sc.names.lookup ("len" : Str) = some .globalImplicit := by rfl) (hg2 : g.sc.names.lookup ("set" : Str) = some .globalImplicit := by rfl)
    (na : ∀ env, starEach [a] env = (false, eval a env) :: starEach [] env := by intro _; rfl) : DE g (.Call (.Name "len" p) [.Call (.Name "set" p2) [a] [] q] [] pos) (eCB lenSetD (aCons m aNil)) := by
  obtain ⟨t, pr⟩ := h
  refine ⟨fun E => tLenSetT g.K (t E), fun y ok => ⟨pe_lenSetT (X := g.cx y) rfl (ok.gl hg) hm (ok.gl hg2) hm2 (pr y ok).1 (na _), ?_⟩⟩
  intro B c0 c ad H0 s H r R Q cf bd hx k
  refine (pr y ok).2 B c0 c ad H0 s H r _ _ cf (bd1 bd) hx fun d v H1 hx s1 a1 => ?_
  obtain ⟨z, hz, hR⟩ := hx
  cases a1 with
  | @tup l xs ds h l2 r2 =>
    have hz : ((strsD ds).bind fun zs => if zs.length ≤ 4000 then some (D.int ((zs.foldl onceN []).length : Nat)) else none) = some z := hz
    cases ez : strsD ds with
    | none => rw [ez] at hz; cases hz
    | some zs =>
      rw [ez] at hz
      have hz : (if zs.length ≤ 4000 then some (D.int ((zs.foldl onceN []).length : Nat)) else none) = some z := hz
      split at hz
      · rename_i h4
        cases hz
        rw [strsD_inv ez] at r2
        exact ⟨l, zs, rfl, by rw [← r2.strs]; exact h.sq, h4, k _ _ H1 hR s1.inl (.int _)⟩
      · cases hz
  | _ => cases hz
end DS
/-! DS40: repr of data in the law's own body, where no repr is under way. -/
namespace DS
open PySem PySem.Spec PyProof.Rows L2

/-- a def's promise where no repr is under way -/
structure FnG (P : Program) (w : World) (K : PySem.W.Frag) (mg : Str → Option Value) (base : Heap) (k : Nat) (f : Addr) (fd : FuncData) (ps : List Str) (sp : Sp) : Prop where
  goes : ∀ (A : Around) (outer : List PySem.Env) (s : Shared) (H : Hp) (args : Args) (us : List Value) (vs : List V) (Q : VK) (E : XK),
    A.guards = some [] → Room k A → Env0 P w K mg base A outer s H → BindsTo s fd args (ps.zip us) → Vals vs us → sp vs H Q E → codeAny (model P w) A (.call (.ref f) args) (CR L2.CX0 outer P w H s Q E) s
section
variable {P : Program} {w : World} {K : PySem.W.Frag} {mg : Str → Option Value} {base : Heap} {k : Nat} {f : Addr} {N ps : List Str} {sp : Sp}
theorem fnG_of {name qual : Str} {prm : Arguments} {body : List Stmt} {sc : Scope} {dV kV doc pm cdv ct oc : Value} {an od : Option Addr} {osl : Array (Option Value)}
    (look : K.lookup f = some ⟨oc, od, .func (PySem.W.fnOf name qual prm body sc dV kV doc pm an cdv ct), osl⟩) (code : PySem.W.codeIn K cdv qual = true) (S : FnScope N ps sc) (len : ∀ vs H Q E, sp vs H Q E → vs.length = ps.length)
    (hb : ∀ (A : Around) (outer : List PySem.Env) (s : Shared) (H : Hp) (vs : List V) (Q : VK) (E : XK), A.guards = some [] → Room k (A.deeper (envOfC qual sc s.heap.objs.size f cdv)) → sp vs H Q E →
      ∃ t, PSs (cxOf L2.CX0 P w K mg base N qual sc f cdv A outer s H E) body t ∧ t { nx := fun _ H' => Q .non H', rt := Q } (start N vs) H) :
    FnG P w K mg base (k + 1) f (PySem.W.fnOf name qual prm body sc dV kV doc pm an cdv ct) ps sp := by
  constructor
  intro A outer s H args us vs Q E gd room e0 bind rel q
  have ls := len vs H Q E q
  have old : ∀ b o, base.get? b = some o → s.heap.get? b = some o := fun b o z => (e0.bs b o z).1
  have inK : K.In s.heap := e0.mod.kin.keeps old
  have nol : s.heap.NoLimit := e0.mod.nolimit.keeps old
  have kinds : ∀ y ∈ ps.zip us, sc.names.lookup y.1 = some .local ∨ (sc.names.lookup y.1 = some .cell ∧ ((cellsFrom (s.heap.objs.size + 1) sc.names []).lookup y.1).isSome = true) := by
    rintro ⟨x, v⟩ hy
    refine (S.par x (List.of_mem_zip hy).1).imp id fun z => ⟨z, ?_⟩
    exact PySem.W.cellsFrom_some _ _ _ (.inl z)
  obtain ⟨t, ht, hq⟩ := hb A outer s H vs Q E gd (room.deeper _) q
  apply codeAny_call_function room.depth (inK _ _ look) rfl S.co S.gen rfl (PySem.W.codeRec_of inK code)
  apply bind
  apply wpAny_newFunctionEnv_cells S.kind kinds
  rintro env rfl s1 x
  refine ⟨nol.keeps x.toInCall.keep, codeAny_func ?_⟩
  have I : Inv (cxOf L2.CX0 P w K mg base N qual sc f cdv A outer s H E) [] (start N vs) H s1 := inv_start S room.hd e0 ls rel x
  refine wpAny_mono (ht.run [] s1 (start N vs) H _ I hq) (fun fl s' hs => ?_) fun _ _ z => z
  match fl, hs with
  | .ret u, ⟨v, σ', H', J, r, z⟩ => exact ⟨v, H', J.os, J.bare, J.base, J.hok, r, z⟩
  | .next, ⟨σ', H', J, z⟩ => exact ⟨.non, H', J.os, J.bare, J.base, J.hok, rfl, z⟩
  | .brk, ⟨_, _, _, z⟩ => exact False.elim z
  | .cont, ⟨_, _, _, z⟩ => exact False.elim z
end
section
variable {P : Program} {w : World} {K : PySem.W.Frag} {mg mb : Str → Option Value}
/-- an empty table as it lies in the heap, the script's list -/
abbrev emptyTab : Obj := { cls := .none, data := .fields #[] }
abbrev listObj (vs : List Value) : Obj := { cls := .type "list", data := .seq vs.toArray }
/-- what the law may see: the tables, the script's list if the program's top doesn't know it -/
def seen (K : PySem.W.Frag) (cs : List (Addr × Addr)) (a : Addr) (vs : List Value) (ns : List Int) : Hp := fun b =>
  if b ∈ cs.map (·.2) then some (.tbl #[]) else if b = a ∧ K.lookup a = none then some (.frz (listObj vs) (.lst (ns.map V.int))) else none
theorem law_callG {k : Nat} {fa a : Addr} {cs : List (Addr × Addr)} {fd : FuncData} {x : Str} {sp : Sp} {s : Shared} {vs : List Value} {ns : List Int}
    (inK : K.In s.heap) (hns : s.heap.Ns mainGlobals mg) (hb : s.heap.Ns builtinsNs mb) (hbb : ∀ x : Str, x ≠ "__name__" → mb x = bootBuiltins x) (hlim : s.heap.NoLimit) (hg : s.gens = #[])
    (hT : ∀ p ∈ cs, s.heap.get? p.2 = some emptyTab) (nT : ∀ p ∈ cs, K.lookup p.2 = none) (C : ∀ p ∈ cs, PySem.W.CodeHd s.heap p.1 p.2)
    (hbm : ∃ (bm : Addr) (ob : Obj), mg "__builtins__" = some (.ref bm) ∧ bm ≠ builtinsNs ∧ s.heap.get? bm = some ob ∧ ob.cls = .type "module" ∧ ob.dict = some builtinsNs ∧ ob.data = .plain)
    (ha : s.heap.get? a = some (listObj vs)) (hi : IntsAre vs ns) (hl : ns.length ≤ sizeLine) (hr : Room k callerA)
    (F : ∀ base : Heap, K.In base → base.Ns mainGlobals mg → (∀ p ∈ cs, LamX.TabB base mg p.1 p.2) → FnG P w K mg base k fa fd [x] sp) (hbind : ∀ (s : Shared) (u : Value), BindsTo s fd ⟨[u], []⟩ [(x, u)])
    (hsp : ∀ H : Hp, (∀ p ∈ cs, H p.2 = some (.tbl #[])) → SqL K H a (ns.map V.int) → sp [.ref a] H (fun v _ => v = .bl true) fun _ _ _ => False) :
    codeAny (model P w) callerA (.call (.ref fa) ⟨[.ref a], []⟩) (fun r s' => r = .ok (.ret (.bool true)) ∧ OldK s.heap s'.heap ∧ s'.os = s.os ∧ AllBare s'.gens) s := by
  have rel := vals_ints hi
  have lenV := hi.length
  have tab : ∀ b, b ∈ cs.map (·.2) → s.heap.get? b = some emptyTab := by
    intro b hm
    obtain ⟨p, hp, rfl⟩ := List.mem_map.mp hm
    exact hT p hp
  have ntab : ∀ b, b ∈ cs.map (·.2) → K.lookup b = none := by
    intro b hm
    obtain ⟨p, hp, rfl⟩ := List.mem_map.mp hm
    exact nT p hp
  have na : a ∉ cs.map (·.2) := fun hm => by
    have z := (tab a hm).symm.trans ha
    exact nomatch congrArg Obj.data (Option.some.inj z)
  generalize hH : seen K cs a vs ns = H
  have Ht : ∀ b, b ∈ cs.map (·.2) → H b = some (.tbl #[]) := fun b hm => by subst hH; exact if_pos hm
  have Hs : ∀ b u, H b = some u → (b ∈ cs.map (·.2) ∧ u = .tbl #[]) ∨ (b = a ∧ K.lookup a = none ∧ u = .frz (listObj vs) (.lst (ns.map V.int))) := fun b u e => by
    subst hH
    unfold seen at e
    split at e
    · cases e; exact .inl ⟨by assumption, rfl⟩
    · split at e
      · rename_i h2
        cases e; exact .inr ⟨h2.1, h2.2, rfl⟩
      · cases e
  have Hn : ∀ b o, s.heap.get? b = some o → o ≠ emptyTab → (b = a → K.lookup a ≠ none) → H b = none := fun b o e n1 n2 => by
    cases q : H b with
    | none => rfl
    | some u =>
      rcases Hs b u q with ⟨hm, _⟩ | ⟨h1, h2, _⟩
      · exact absurd (Option.some.inj (e.symm.trans (tab b hm))) n1
      · exact absurd h2 (n2 h1)
  have nl : ∀ {b : Addr} {o : Obj}, s.heap.get? b = some o → (∀ vs n, o.data ≠ .seq vs n) → b = a → K.lookup a ≠ none := fun {b o} e n z => by
    subst z
    rw [ha] at e
    cases e
    exact absurd rfl (n _ _)
  have Sq : SqL K H a (ns.map V.int) := by
    cases q : K.lookup a with
    | none => refine .inl (.inr ⟨listObj vs, ?_⟩); subst hH; exact (if_neg na).trans (if_pos ⟨rfl, q⟩)
    | some o =>
      have e := inK a o q
      rw [ha] at e
      cases e
      exact .inr ⟨_, vs.toArray, _, q, rfl, rfl, rfl, by rw [List.size_toArray, lenV]; exact hl, rel⟩
  have ok : HOk P w H s.heap := fun b u e => by
    rcases Hs b u e with ⟨hm, rfl⟩ | ⟨rfl, _, rfl⟩
    · exact tab b hm
    · exact ⟨ha, by rw [List.length_map]; exact hl, vs, _, rel, ha⟩
  have bs : ∀ {b : Addr} {o : Obj}, s.heap.get? b = some o → H b = none → (hidT s.heap H).get? b = some o := fun e n => hidT_get e n
  have bns : ∀ {b : Addr} {m : Str → Option Value}, s.heap.Ns b m → (hidT s.heap H).Ns b m := by
    rintro b m ⟨o, es, ep, e, d, r⟩
    refine ⟨o, es, ep, bs e (Hn b o e (fun z => ?_) (nl e fun vs n z => ?_)), d, r⟩
    · rw [z] at d; cases d
    · rw [d] at z; cases z
  have bK : K.In (hidT s.heap H) := fun b o e => by
    refine bs (inK b o e) ?_
    cases q : H b with
    | none => rfl
    | some u =>
      rcases Hs b u q with ⟨hm, _⟩ | ⟨h1, h2, _⟩
      · rw [ntab b hm] at e; cases e
      · rw [h1, h2] at e; cases e
  have bM : L2.Mod K mg (hidT s.heap H) := ⟨bK, bns hns, ⟨mb, bns hb, hbb⟩, by obtain ⟨mc, h1, h2⟩ := hlim; exact ⟨mc, bns h1, h2⟩⟩
  have bT : ∀ p ∈ cs, LamX.TabB (hidT s.heap H) mg p.1 p.2 := by
    intro p hp
    have tp := hT p hp
    refine ⟨?_, ?_, fun z => ?_⟩
    · obtain ⟨o, us, file, tf, flags, tg, inF, text, tt, e1, r1, r2, r3, r⟩ := C p hp
      refine ⟨o, us, file, tf, flags, tg, inF, text, tt, bs e1 (Hn _ o e1 (fun z => ?_) (nl e1 fun vs n z => ?_)), r1, r2, r3, r⟩
      · rw [z] at r2
        cases r2
        simp at r3
      · rw [r2] at z; cases z
    · obtain ⟨bm, ob, b1, b2, b3, b4, b5, b6⟩ := hbm
      refine ⟨bm, ob, b1, b2, fun z => ?_, fun z => ?_, bs b3 (Hn _ ob b3 (fun z => ?_) (nl b3 fun vs n z => ?_)), b4, b5, b6⟩
      · obtain ⟨o, es, ep, e, d, _⟩ := hns
        rw [z, e] at b3
        cases b3
        rw [d] at b6
        cases b6
      · rw [z, tp] at b3
        cases b3
        cases b6
      · rw [z] at b6; cases b6
      · rw [b6] at z; cases z
    · obtain ⟨o, es, ep, e, d, _⟩ := hns
      rw [z, tp] at e
      cases e
      cases d
  have e0 : Env0 P w K mg (hidT s.heap H) callerA [] s H := ⟨rfl, bM, fun b o e => of_hidT e, Nat.le_of_eq (hidT_size _ _), trivial, (fun b z => nomatch z), ok, .of_eq hg⟩
  refine codeAny_mono ((F _ bK (bns hns) bT).goes callerA [] s H ⟨[.ref a], []⟩ [.ref a] [.ref a] _ _ rfl hr e0 (hbind s (.ref a)) (.cons rfl .nil) (hsp H (fun p hp => Ht _ (List.mem_map.mpr ⟨p, hp, rfl⟩)) Sq)) ?_
  intro r s' h
  match r, h with
  | .error e, h => exact absurd h id
  | .ok .next, h => exact False.elim h
  | .ok .brk, h => exact False.elim h
  | .ok .cont, h => exact False.elim h
  | .ok (.ret u), ⟨v, H', os, bare, un, hok', rv, q⟩ =>
    have q : v = .bl true := q
    subst q
    have rv : u = Value.bool true := rv
    subst rv
    have more : ∀ b, b ∈ cs.map (·.2) → ∃ m : Array Value, s'.heap.get? b = some { cls := .none, data := .fields m } := fun b hm => by
      obtain ⟨m, z⟩ := un.tbls b #[] (Ht b hm)
      exact ⟨_, hok' b _ z⟩
    have same : ∀ b o, b ∉ cs.map (·.2) → s.heap.get? b = some o → s'.heap.get? b = some o := fun b o n e => by
      cases q : H b with
      | none => exact un.keep b o e q (fun z => nomatch z) (fun z => nomatch z)
      | some u =>
        rcases Hs b u q with ⟨hm, _⟩ | ⟨rfl, _, rfl⟩
        · exact absurd hm n
        · rw [ha] at e
          cases e
          exact (hok' b _ (un.frzs b _ _ q)).1
    refine ⟨rfl, ⟨fun b o e => ?_, fun b o e => ?_⟩, os, bare⟩
    · by_cases hm : b ∈ cs.map (·.2)
      · obtain ⟨m, z⟩ := more b hm
        obtain ⟨p, hp, rfl⟩ := List.mem_map.mp hm
        rw [tab _ hm] at e
        cases e
        refine .inr (.inl ⟨((C p hp).tab (hT p hp)).isCodeTable, rfl, #[], m, rfl, ?_⟩)
        rw [Array.empty_append]; exact z
      · exact .inl (same b o hm e)
    · by_cases hm : b ∈ cs.map (·.2)
      · obtain ⟨m, z⟩ := more b hm; exact ⟨_, z⟩
      · exact ⟨o, same b o hm e⟩
end
open PySem.W in
/-- the walk of a law whose own body asks repr of data -/
theorem walk_ofG {l : PySem.W.OpenLaw} {k : Nat} {q : Program} {loose : List Str} {XP : (Str → Option Value) → Heap → Prop} {YP : World → Heap → Prop} {d : DefRec} {K : Params → PySem.W.Frag} (names : List Str)
    (hn : l.most = some 63) (hdf : d.params.defaults = []) (hr : Room k callerA) (hY : ∀ (w : World) (h : Heap), YP w h → (K w.params).In h) (hq : recsB q names = true)
    (F : ∀ (w : World) (mg : Str → Option Value) (fa : Addr) (h : Heap), (K w.params).In h → h.Ns mainGlobals mg → mg d.name = some (.ref fa) →
      tabsOk (K w.params) names = true ∧ ∃ (fd : FuncData), (∀ (s : Shared) (u : Value), BindsTo s fd ⟨[u], []⟩ [("script", u)]) ∧
        ∀ base : Heap, (K w.params).In base → base.Ns mainGlobals mg → (∀ x ∈ names, LamF (K w.params) mg base (tbs (tabsOf (K w.params) names)) x) → FnG l.prog w (K w.params) mg base k fa fd ["script"] (spLaw (tbs (tabsOf (K w.params) names)) (K w.params))) :
    PySem.W.WalkO q loose XP YP l.row.toRowW d [] (fun f vs => PySem.call f vs) := by
  refine Att.attach_callB hn hdf ?_
  intro w s₀ s mg mb fa o pm cd doc a vs ns G Y ho hd hcd hmg hobj hints hlen hbits hg
  have inK := hY w _ Y
  obtain ⟨hT, fd, hb, hF⟩ := F w mg fa _ inK G.T.g hmg
  obtain ⟨htab, hlk⟩ := tabsOk_tab hT
  have hd : ∀ p ∈ tabsOf (K w.params) names, CodeHd s.heap p.2.1 p.2.2 ∧ s.heap.get? p.2.2 = some (tabObj #[]) := fun p hp => by
    obtain ⟨x, hx, rfl⟩ := List.mem_map.mp hp
    obtain ⟨dr, hdr⟩ := Option.isSome_iff_exists.mp (List.all_eq_true.mp hq x hx)
    exact tab_of G.T inK hdr (htab _ hp)
  have mem : ∀ p ∈ (tabsOf (K w.params) names).map (·.2), ∃ p' ∈ tabsOf (K w.params) names, p'.2 = p := fun p hp => by
    obtain ⟨p', h1, h2⟩ := List.mem_map.mp hp
    exact ⟨p', h1, h2⟩
  refine law_callG (cs := (tabsOf (K w.params) names).map (·.2)) inK G.T.g G.T.b G.T.builtins G.T.nolimit hg ?_ ?_ ?_ G.T.bmain hobj hints (Nat.le_trans hlen (by rw [sizeLine_eq]; decide)) hr (fun base h1 h2 h3 => hF base h1 h2 fun x hx => .of2 hT hx fun p hp => h3 _ (List.mem_map.mpr ⟨p, hp, rfl⟩)) hb fun H hH hS => ?_
  · intro p hp
    obtain ⟨p', hp', rfl⟩ := mem p hp
    exact (hd p' hp').2
  · intro p hp
    obtain ⟨p', hp', rfl⟩ := mem p hp
    exact hlk p' hp'
  · intro p hp
    obtain ⟨p', hp', rfl⟩ := mem p hp
    exact (hd p' hp').1
  · refine ⟨a, ns, rfl, hS, hlen, fun p hp => ?_, fun _ => rfl⟩
    obtain ⟨p', hp', rfl⟩ := List.mem_map.mp hp
    exact LamX.TabS.nil (hH _ (List.mem_map.mpr ⟨p', hp', rfl⟩))
/-- the law's own body: nothing of a repr is under way there -/
abbrev gOfG (P : Program) (w : World) (K : PySem.W.Frag) (mg : Str → Option Value) (base : Heap) (k : Nat) (N : List Str) (x : Str) (st : Stmt) (T : List (Addr × Str)) : G := { gOfL P w K mg base k N x st false T with gd := true }
section
variable {P : Program} {w : World} {K : PySem.W.Frag} {mg : Str → Option Value} {base : Heap}
theorem law_okG {st : Stmt} {N : List Str} {m : WS} {k : Nat} {f : Addr} {fd : FuncData} {rest : List Stmt} {T : List (Addr × Str)} {p1 p2 p3 p4 p5 : Pos} (hn : PySem.W.nsIn K mainGlobals "law" = some (some (.ref f))) (F : L2.Fun K "law" "law" st f fd) (S : FnScope N ["script"] (defScope st)) (B : FnH P w K mg base 1 "_law_begun" (spBegun K)) (hk : 1 ≤ k)
    (hst : defBody st = .Assign [.Name "state" p1] (.Call (.Name "_law_begun" p2) [.Name "script" p3] [] p4) p5 :: rest) (hb : DSs (gOfG P w K mg base k N "law" st T) rest m) (hN2 : 2 ≤ N.length)
    (h0 : N[0]? = some ("script" : Str)) (h1 : N[1]? = some ("state" : Str)) (hg : (defScope st).names.lookup ("_law_begun" : Str) = some .globalImplicit) (hs : (defScope st).names.lookup ("state" : Str) = some .local ∨ (defScope st).names.lookup ("state" : Str) = some .cell)
    (ht : LawTrue2 N m) : FnG P w K mg base (k + 1) f fd ["script"] (spLaw T K) := by
  obtain ⟨oc, od, kV, doc, pm, an, cdv, ct, osl, rfl, lk, hcd⟩ := F.ex
  have hc : codeK K "law" = cdv := by unfold codeK; rw [hn]; simp only [lk]
  obtain ⟨t, p⟩ := hb
  obtain ⟨fB, fdB, psB, FB, hmB, hkB, hbB⟩ := B.ex
  refine fnG_of lk hcd S (fun vs H Q E ⟨a, ns, e, _⟩ => by rw [e]; rfl) (fun A outer s H vs Q E gd hr h => ?_)
  obtain ⟨a, ns, rfl, hS, hl, hT, q⟩ := h
  have ok : (gOfG P w K mg base k N "law" st T).Ok { A := A.deeper (envOfC "law" (defScope st) s.heap.objs.size f cdv), s0 := s, H0 := H, env := envOfC "law" (defScope st) s.heap.objs.size f cdv, outer := outer, stack := envOfC "law" (defScope st) s.heap.objs.size f cdv :: outer, ex := [], pn := [], xe := fun _ _ => False, E := ⟨fun _ _ _ => True, T⟩ } :=
    ⟨rfl, hr, S.nd, PassesOwn.never, fun z => Bool.noConfusion z, rfl, fun z h => (by cases h; exact ⟨hc.symm, rfl⟩), fun _ => gd⟩
  have hps : ∀ t0, PSs (cxOf L2.CX0 P w K mg base N "law" (defScope st) f cdv A outer s H E).nox (defBody st) t0 → PSs (cxOf L2.CX0 P w K mg base N "law" (defScope st) f cdv A outer s H E) (defBody st) t0 := fun t0 h => h.nox
  refine ⟨tSeq (tAsg (tCall (spBegun K) [] L2.E0 (tCons (tVar 0) tNil)) (gName 1)) (t ⟨fun _ _ _ => True, T⟩), ?_, ?_⟩
  · refine hps _ ?_
    rw [hst]
    refine pss_cons (ps_set (i := 1) ok.nd h1 (ok.loc hs) (pe_call FB (hr.mono hk) (ok.gl hg) hmB hkB hbB .nil L2.pass0 (pa_cons (pe_var h0 (S.par "script" (by simp) |>.elim Or.inl fun z => Or.inr (Or.inl z))) pa_nil)) (by rfl) (.inl rfl)) (p _ ok).1
  · have hz : 0 < N.length := by omega
    refine ⟨.ref a, rfl, a, ns, T, rfl, hS, hl, hT, fun c great cells H' hcT hs' n1 n2 fr => ?_⟩
    have cf := law_cf2 (K := K) (a := a) (T := T) hs' hcT hN2 ht.1 hS hl fr n1 n2
    refine (p _ ok).2 _ _ _ (fun _ => 0) H' _ H' (lawE2 N ns) _ _ cf ?_ (ht.2 ns hl) ?_
    · rw [show trn _ H' = (0 : Int).toNat from hs'.trn]
      show 0 + m.n ≤ m.n
      rw [Nat.zero_add]
      exact Nat.le_refl _
    · exact ⟨fun _ _ _ _ _ _ _ z => z.elim, fun _ _ _ _ _ _ _ z => z.elim, fun _ _ _ _ _ _ _ z => z.elim, fun d v H2 hR _ _ a1 => by
        have hR : d = .bl true := hR
        subst hR
        cases a1
        exact q H2⟩
end
/-! ### repr of data -/
theorem At.showsNoDict : ∀ {d : D}, okq d = true → (toP d).hasDict = false := by
  intro d
  induction d using D.rec (motive_2 := fun ds => okqs ds = true → PyData.hasDictAll (toPs ds) = false) with
  | non => intro _; rfl
  | bl b => intro _; rfl
  | int i => intro _; rfl
  | str x => intro _; rfl
  | tup ds ih => intro h; simp only [toP, PyData.hasDict]; exact ih (by simpa only [okq] using h)
  | lst ds ih => intro h; simp only [toP, PyData.hasDict]; exact ih (by simpa only [okq] using h)
  | dic ks vs ih => intro h; simp [okq] at h
  | st => intro h; simp [okq] at h
  | err x ks vs ih => intro h; simp [okq] at h
  | nil => rfl
  | cons d ds ih1 ih2 =>
    rename_i h
    simp only [okqs, Bool.and_eq_true] at h
    simp only [toPs, PyData.hasDictAll, ih1 h.1, ih2 h.2, Bool.or_self]
/-- the text that repr tells -/
def reprO (d : D) : Option Str := if ((okq d && (toP d).showable) && (decide ((toP d).depth ≤ 60) && decide ((toP d).shown.length ≤ 16777216))) = true then some (toP d).shown else none
def rRepr (K : PySem.W.Frag) : List V → Hp → VK → Prop := fun xs H Q => ∃ x d, xs = [x] ∧ Dp K H x d ∧ d.showable = true ∧ d.hasDict = false ∧ d.depth ≤ 60 ∧ d.shown.length ≤ sizeLine ∧ Q (.str d.shown) H
theorem call_reprD {X : Cx} (gd : X.A.guards = some []) (hu : X.A.units + 64 < cLine) : CallR X (.builtin "repr") (rRepr X.K) := by
  intro pins s σ H xs us Q I r h
  obtain ⟨x, d, rfl, hd, h1, h2, h3, h4, q⟩ := h
  obtain ⟨u, rfl, rx⟩ := vals1 r
  obtain ⟨as, rd⟩ := Dp.reads I d _ u hd rx
  have key : ∀ a, u = .ref a → wpAny (model X.prog X.w) X.A (call (.builtin "repr") [u]) (EP X pins σ Q) X.xe s := fun a e => by
    subst e
    exact repr_of_reads' rd h1 (fun z => by rw [h2] at z; cases z) gd (by omega) (fun _ _ e => e) (fun h' v tk k => ⟨.str d.shown, H, I.kept k, ⟨v, rfl⟩, q⟩) h4
  cases rd with
  | none => exact PySem.P.repr_of_none ⟨.str _, H, I.tok _, ⟨s.toks, by simp only [PyData.shown]⟩, q⟩
  | bool b => exact PySem.P.repr_of_bool ⟨.str _, H, I.tok _, ⟨s.toks, by simp only [PyData.shown]⟩, q⟩
  | int i t => exact PySem.P.repr_of_int (by simpa [PyData.showable] using h1) ⟨.str _, H, I.tok _, ⟨s.toks, by simp only [PyData.shown]⟩, q⟩
  | str z t => exact PySem.P.repr_of_str ⟨.str _, H, I.tok _, ⟨s.toks, by simp only [PyData.shown]⟩, q⟩ (by simpa only [PyData.shown] using h4)
  | _ => exact key _ rfl
/-- repr(a) != repr(b) -/
def eReprNe (a b : WE) : WE := ⟨fun r R => a r fun x => ∃ z, reprO x = some z ∧ b r fun y => ∃ z2, reprO y = some z2 ∧ R (.bl (!decide (z = z2))), a.n + b.n⟩
theorem reprO_dp {K : PySem.W.Frag} {c : Co} {H : Hp} {v : V} {d : D} {z : Str} (e : reprO d = some z) (a : At K c H v d) : Dp K H v (toP d) ∧ (toP d).showable = true ∧ (toP d).hasDict = false ∧ (toP d).depth ≤ 60 ∧ (toP d).shown.length ≤ sizeLine ∧ z = (toP d).shown := by
  unfold reprO at e
  split at e
  · rename_i h
    simp only [Bool.and_eq_true, decide_eq_true_eq] at h
    cases e
    exact ⟨At.dp h.1.1 a, h.1.2, At.showsNoDict h.1.1, h.2.1, by rw [sizeLine_eq]; exact h.2.2, rfl⟩
  · cases e
theorem sem_reprNe {K : PySem.W.Frag} {E : EX} {ma mb : WE} {ta tb : TE} (pa : SemE K E ma ta) (pb : SemE K E mb tb) : SemE K E (eReprNe ma mb) (tOp rNe (tCB (rRepr K) (tCons ta tNil)) (tCB (rRepr K) (tCons tb tNil))) := by
  intro B c0 c ad H0 s H r R Q cf bd hx k
  refine pa B c0 c ad H0 s H r _ _ cf (bd1 bd) hx fun x v H1 hx s1 a1 => ?_
  obtain ⟨z, e, hx⟩ := hx
  obtain ⟨d1, d2, d3, d4, d5, rfl⟩ := reprO_dp e a1
  refine ⟨v, toP x, rfl, d1, d2, d3, d4, d5, ?_⟩
  refine pb B c0 c ad H0 s H1 r _ _ (cf.step s1) (bd2 bd s1.3) hx fun x2 v2 H2 hx2 s2 a2 => ?_
  obtain ⟨z2, e2, hR⟩ := hx2
  obtain ⟨f1, f2, f3, f4, f5, rfl⟩ := reprO_dp e2 a2
  refine ⟨v2, toP x2, rfl, f1, f2, f3, f4, f5, rfl, ?_⟩
  refine k _ _ H2 hR (s1.trans s2) ?_
  rw [show decide (V.str (toP x).shown = V.str (toP x2).shown) = decide ((toP x).shown = (toP x2).shown) from decide_eq_decide.mpr (by simp)]
  exact .bl _
section
variable {g : G} {a b : Expr} {ma mb : WE} {p1 p2 p3 p4 pos : Pos}
theorem de_reprNe (gd : g.gd = true) (hm : g.mg "repr" = none) (ha : DE g a ma) (hb : DE g b mb) (hg : g.sc.names.lookup ("repr" : Str) = some .globalImplicit := by rfl)
    (hs1 : ∀ env, starEach [a] env = (false, eval a env) :: starEach [] env := by intro _; rfl) (hs2 : ∀ env, starEach [b] env = (false, eval b env) :: starEach [] env := by intro _; rfl) (hmk : behindInMarks .NotEq (.Call (.Name "repr" p3) [b] [] p4) = false := by first | exact nomark _ | rfl) :
    DE g (.Compare (.Call (.Name "repr" p1) [a] [] p2) [.NotEq] [.Call (.Name "repr" p3) [b] [] p4] pos) (eReprNe ma mb) := by
  obtain ⟨ta, pa⟩ := ha
  obtain ⟨tb, pb⟩ := hb
  exact ⟨fun E => tOp rNe (tCB (rRepr g.K) (tCons (ta E) tNil)) (tCB (rRepr g.K) (tCons (tb E) tNil)), fun y ok => ⟨pe_cmpR op_ne (pe_callB (call_reprD (ok.gd gd) ok.room.units) (ok.gl hg) hm (by decide +kernel) (pa_cons (pa y ok).1 pa_nil (hs1 _)) (by decide) (by decide) (hs1 _) rfl) (pe_callB (call_reprD (ok.gd gd) ok.room.units) (ok.gl hg) hm (by decide +kernel) (pa_cons (pb y ok).1 pa_nil (hs2 _)) (by decide) (by decide) (hs2 _) rfl) hmk, sem_reprNe (pa y ok).2 (pb y ok).2⟩⟩
theorem dt_reprNe (gd : g.gd = true) (hm : g.mg "repr" = none) (ha : DE g a ma) (hb : DE g b mb) (hg : g.sc.names.lookup ("repr" : Str) = some .globalImplicit := by rfl)
    (hs1 : ∀ env, starEach [a] env = (false, eval a env) :: starEach [] env := by intro _; rfl) (hs2 : ∀ env, starEach [b] env = (false, eval b env) :: starEach [] env := by intro _; rfl) (hmk : behindInMarks .NotEq (.Call (.Name "repr" p3) [b] [] p4) = false := by first | exact nomark _ | rfl) :
    DT g (.Compare (.Call (.Name "repr" p1) [a] [] p2) [.NotEq] [.Call (.Name "repr" p3) [b] [] p4] pos) (tV (eReprNe ma mb)) := by
  obtain ⟨ta, pa⟩ := ha
  obtain ⟨tb, pb⟩ := hb
  exact ⟨fun E => tTest (tOp rNe (tCB (rRepr g.K) (tCons (ta E) tNil)) (tCB (rRepr g.K) (tCons (tb E) tNil))), fun y ok => ⟨pt_cmpR op_ne (pe_callB (call_reprD (ok.gd gd) ok.room.units) (ok.gl hg) hm (by decide +kernel) (pa_cons (pa y ok).1 pa_nil (hs1 _)) (by decide) (by decide) (hs1 _) rfl) (pe_callB (call_reprD (ok.gd gd) ok.room.units) (ok.gl hg) hm (by decide +kernel) (pa_cons (pb y ok).1 pa_nil (hs2 _)) (by decide) (by decide) (hs2 _) rfl) hmk, sem_test (sem_reprNe (pa y ok).2 (pb y ok).2)⟩⟩
end
@[simp] theorem f_eReprNe {a b : WE} {r : Env} {R : D → Prop} : (eReprNe a b).f r R = a.f r fun x => ∃ z, reprO x = some z ∧ b.f r fun y => ∃ z2, reprO y = some z2 ∧ R (.bl (!decide (z = z2))) := Eq.trans rfl rfl
end DS
/-! DS41: texts among texts; is None; equal data. -/
namespace DS
open PySem PySem.Spec PyProof.Rows L2
theorem okqs_strs : ∀ zs : List Str, okqs (zs.map .str) = true
  | [] => rfl
  | z :: zs => by show (true && okqs (zs.map .str)) = true; rw [okqs_strs zs]; rfl
theorem okqs_ints : ∀ zs : List Int, okqs (zs.map .int) = true
  | [] => rfl
  | z :: zs => by show (true && okqs (zs.map .int)) = true; rw [okqs_ints zs]; rfl
theorem any_strs (z : Str) : ∀ zs : List Str, (toPs (zs.map .str)).any (fun p => PyData.eqv p (.str z)) = decide (z ∈ zs)
  | [] => rfl
  | x :: zs => by
    show (PyData.eqv (.str x) (.str z) || (toPs (zs.map .str)).any (fun p => PyData.eqv p (.str z))) = _
    rw [any_strs z zs, Bool.eq_iff_iff]
    simp only [PyData.eqv, Bool.or_eq_true, decide_eq_true_eq, List.mem_cons, beq_iff_eq]
    exact ⟨fun h => h.imp Eq.symm id, fun h => h.imp Eq.symm id⟩
theorem any_ints (z : Int) : ∀ zs : List Int, (toPs (zs.map .int)).any (fun p => PyData.eqv p (.int z)) = decide (z ∈ zs)
  | [] => rfl
  | x :: zs => by
    show (PyData.eqv (.int x) (.int z) || (toPs (zs.map .int)).any (fun p => PyData.eqv p (.int z))) = _
    rw [any_ints z zs, Bool.eq_iff_iff]
    simp only [PyData.eqv, Bool.or_eq_true, decide_eq_true_eq, List.mem_cons, beq_iff_eq]
    exact ⟨fun h => h.imp Eq.symm id, fun h => h.imp Eq.symm id⟩
theorem inL_strs (z : Str) (zs : List Str) : inL (.str z) (zs.map .str) = some (decide (z ∈ zs)) := by
  unfold inL
  rw [if_pos ⟨rfl, okqs_strs zs, Nat.le_trans (Nat.min_le_right _ _) (by simp only [toP, PyData.depth]; decide)⟩]
  simp only [toP]
  rw [any_strs]
theorem inL_ints (z : Int) (zs : List Int) : inL (.int z) (zs.map .int) = some (decide (z ∈ zs)) := by
  unfold inL
  rw [if_pos ⟨rfl, okqs_ints zs, Nat.le_trans (Nat.min_le_right _ _) (by simp only [toP, PyData.depth]; decide)⟩]
  simp only [toP]
  rw [any_ints]
theorem inD_strs (z : Str) (zs : List Str) : inD (.str z) (.lst (zs.map .str)) = some (.bl (decide (z ∈ zs))) := by
  show (inL (.str z) (zs.map .str)).map D.bl = _; rw [inL_strs]; rfl
theorem ninD_strs (z : Str) (zs : List Str) : ninD (.str z) (.lst (zs.map .str)) = some (.bl (!decide (z ∈ zs))) := by
  show (inL (.str z) (zs.map .str)).map (fun b => D.bl (!b)) = _; rw [inL_strs]; rfl
theorem inD_strsT (z : Str) (zs : List Str) : inD (.str z) (.tup (zs.map .str)) = some (.bl (decide (z ∈ zs))) := by
  show (inL (.str z) (zs.map .str)).map D.bl = _; rw [inL_strs]; rfl
theorem ninD_strsT (z : Str) (zs : List Str) : ninD (.str z) (.tup (zs.map .str)) = some (.bl (!decide (z ∈ zs))) := by
  show (inL (.str z) (zs.map .str)).map (fun b => D.bl (!b)) = _; rw [inL_strs]; rfl
@[simp] theorem inD_t2 (z a b : Str) : inD (.str z) (.tup [.str a, .str b]) = some (.bl (decide (z ∈ [a, b]))) := inD_strsT z [a, b]
@[simp] theorem inD_t3 (z a b c : Str) : inD (.str z) (.tup [.str a, .str b, .str c]) = some (.bl (decide (z ∈ [a, b, c]))) := inD_strsT z [a, b, c]
@[simp] theorem inD_l2 (z a b : Str) : inD (.str z) (.lst [.str a, .str b]) = some (.bl (decide (z ∈ [a, b]))) := inD_strs z [a, b]
@[simp] theorem inD_l4 (z a b c d : Str) : inD (.str z) (.lst [.str a, .str b, .str c, .str d]) = some (.bl (decide (z ∈ [a, b, c, d]))) := inD_strs z [a, b, c, d]
@[simp] theorem ninD_t4 (z a b c d : Str) : ninD (.str z) (.tup [.str a, .str b, .str c, .str d]) = some (.bl (!decide (z ∈ [a, b, c, d]))) := ninD_strsT z [a, b, c, d]
@[simp] theorem ninD_l4 (z a b c d : Str) : ninD (.str z) (.lst [.str a, .str b, .str c, .str d]) = some (.bl (!decide (z ∈ [a, b, c, d]))) := ninD_strs z [a, b, c, d]
def isNon : D → Bool
  | .non => true
  | _ => false
@[simp] theorem isD_non (d : D) : isD d .non = some (.bl (isNon d)) := by cases d <;> first | rfl | exact Eq.trans rfl rfl
@[simp] theorem isntD_non (d : D) : isntD d .non = some (.bl (!isNon d)) := by cases d <;> first | rfl | exact Eq.trans rfl rfl
/-- equal data -/
theorem eqv_strs : ∀ a b : List Str, PyData.eqvAll (toPs (a.map .str)) (toPs (b.map .str)) = decide (a = b)
  | [], [] => rfl
  | [], _ :: _ => rfl
  | _ :: _, [] => rfl
  | x :: a, y :: b => by
    show (PyData.eqv (.str x) (.str y) && PyData.eqvAll (toPs (a.map .str)) (toPs (b.map .str))) = _
    rw [eqv_strs a b, Bool.eq_iff_iff]
    simp [PyData.eqv]
theorem eqv_ints : ∀ a b : List Int, PyData.eqvAll (toPs (a.map .int)) (toPs (b.map .int)) = decide (a = b)
  | [], [] => rfl
  | [], _ :: _ => rfl
  | _ :: _, [] => rfl
  | x :: a, y :: b => by
    show (PyData.eqv (.int x) (.int y) && PyData.eqvAll (toPs (a.map .int)) (toPs (b.map .int))) = _
    rw [eqv_ints a b, Bool.eq_iff_iff]
    simp [PyData.eqv]
theorem dep_strs : ∀ a : List Str, PyData.depthAll (toPs (a.map .str)) ≤ 1
  | [] => by simp [toPs, PyData.depthAll]
  | x :: a => by
    have := dep_strs a
    simp only [List.map_cons, toPs, toP, PyData.depthAll, PyData.depth]
    omega
theorem dep_ints : ∀ a : List Int, PyData.depthAll (toPs (a.map .int)) ≤ 1
  | [] => by simp [toPs, PyData.depthAll]
  | x :: a => by
    have := dep_ints a
    simp only [List.map_cons, toPs, toP, PyData.depthAll, PyData.depth]
    omega
theorem eqB_strsT (a b : List Str) : eqB (.tup (a.map .str)) (.tup (b.map .str)) = some (decide (a = b)) := by
  cases b with
  | nil =>
    show some ((a.map D.str).isEmpty) = _
    cases a <;> rfl
  | cons y b =>
    have h := dep_strs a
    have e : emp (.tup (a.map .str)) (.tup ((y :: b).map .str)) = none := rfl
    unfold eqB
    rw [e, Option.none_or, if_pos ⟨by simp only [okq]; exact okqs_strs a, by simp only [okq]; exact okqs_strs (y :: b), by simp only [toP, PyData.depth]; omega⟩]
    simp only [toP, PyData.eqv]
    rw [eqv_strs]
theorem eqB_intsT (a b : List Int) : eqB (.tup (a.map .int)) (.tup (b.map .int)) = some (decide (a = b)) := by
  cases b with
  | nil =>
    show some ((a.map D.int).isEmpty) = _
    cases a <;> rfl
  | cons y b =>
    have h := dep_ints a
    have e : emp (.tup (a.map .int)) (.tup ((y :: b).map .int)) = none := rfl
    unfold eqB
    rw [e, Option.none_or, if_pos ⟨by simp only [okq]; exact okqs_ints a, by simp only [okq]; exact okqs_ints (y :: b), by simp only [toP, PyData.depth]; omega⟩]
    simp only [toP, PyData.eqv]
    rw [eqv_ints]
theorem neD_strsT (a b : List Str) : neD (.tup (a.map .str)) (.tup (b.map .str)) = some (.bl (!decide (a = b))) := by unfold neD; rw [eqB_strsT]; rfl
theorem eqD_strsT (a b : List Str) : eqD (.tup (a.map .str)) (.tup (b.map .str)) = some (.bl (decide (a = b))) := by unfold eqD; rw [eqB_strsT]; rfl
theorem eqD_intsT (a b : List Int) : eqD (.tup (a.map .int)) (.tup (b.map .int)) = some (.bl (decide (a = b))) := by unfold eqD; rw [eqB_intsT]; rfl
theorem cutL_from {α : Type} (xs : List α) (k : Nat) : cutL xs (some (k : Int)) none = xs.drop k := by
  unfold cutL
  rw [HT.sIx_nat, HT.sIx_none]
  by_cases h : k ≤ xs.length
  · rw [Nat.min_eq_left h]
    exact List.take_of_length_le (by rw [List.length_drop]; exact Nat.le_refl _)
  · rw [Nat.min_eq_right (by omega), Nat.sub_self, List.take_zero, List.drop_of_length_le (by omega)]
theorem cutL_to {α : Type} (xs : List α) (k : Nat) : cutL xs none (some (k : Int)) = xs.take k := by
  unfold cutL
  rw [HT.sIx_nat, HT.sIx_none, List.drop_zero, Nat.sub_zero]
  by_cases h : k ≤ xs.length
  · rw [Nat.min_eq_left h]
  · rw [Nat.min_eq_right (by omega), List.take_length, List.take_of_length_le (by omega)]
theorem cutL_from1 {α : Type} (x : α) (xs : List α) : cutL (x :: xs) (some 1) none = xs := cutL_from (x :: xs) 1
theorem slD_tup {ds : List D} {lo hi : Option Int} : slD (.tup ds) lo hi = some (.tup (cutL ds lo hi)) := rfl
theorem slD_lst {ds : List D} {lo hi : Option Int} : slD (.lst ds) lo hi = some (.lst (cutL ds lo hi)) := rfl
theorem slD_from1 {x : D} {xs : List D} : slD (.tup (x :: xs)) (some 1) none = some (.tup xs) := by rw [slD_tup, cutL_from1]
theorem ix4 {α : Type} {a b c d e : α} {xs : List α} : atI (a :: b :: c :: d :: e :: xs) 4 = some e := atI_nat (j := 4) rfl
theorem ix5 {α : Type} {a b c d e f : α} {xs : List α} : atI (a :: b :: c :: d :: e :: f :: xs) 5 = some f := atI_nat (j := 5) rfl
theorem tyS_str {errs : ETab} {z : Str} : isTy errs "str" (.str z) = some (.bl true) := rfl
end DS
/-! DS42: list + list as a new list of one's own; loops whose invariant looks at what is left. -/
namespace DS
open PySem PySem.Spec PyProof.Rows L2
/-- list + list, a new list -/
def fCat (a b : WE) : WF := ⟨fun r R => a r fun x => b r fun y => ∃ xs ys, x = .lst xs ∧ y = .lst ys ∧ xs.length + ys.length ≤ sizeLine ∧ R (.ol (xs ++ ys)), a.n + b.n⟩
theorem df_cat {g : G} {a b : Expr} {ma mb : WE} {pos : Pos} (ha : DE g a ma) (hb : DE g b mb) : DF g (.BinOp a .Add b pos) (fCat ma mb) := by
  obtain ⟨ta, pa⟩ := ha
  obtain ⟨tb, pb⟩ := hb
  refine ⟨fun E => tOp (rCatS g.K) (ta E) (tb E), fun y ok => ⟨pe_op op_catS (pa y ok).1 (pb y ok).1, ?_⟩⟩
  intro B c0 c ad H0 s H r R Q cf bd hx k
  refine (pa y ok).2 B c0 c ad H0 s H r _ _ cf (bd1 bd) hx fun x v H1 hx s1 a1 => ?_
  refine (pb y ok).2 B c0 c ad H0 s H1 r _ _ (cf.step s1) (bd2 bd s1.3) hx fun x2 v2 H2 hx2 s2 a2 => ?_
  obtain ⟨xs, ys, rfl, rfl, hl, hR⟩ := hx2
  have ev := (cf.step s1).evo s2
  have a1 := a1.evo ev
  cases a1 with
  | lst h1 l1 r1 => cases a2 with
    | lst h2 l2 r2 =>
      refine ⟨_, _, _, _, rfl, rfl, h1.sq, h2.sq, by rw [r1.length, r2.length]; exact hl, fun q hq => ?_⟩
      have s3 := s1.trans s2
      exact k _ _ _ hR trivial (s3.free0 hq) (s3.trans (Step.new (n := 0) s3.1 hq)) ⟨_, upd_same, by rw [List.length_append, r1.length, r2.length]; exact hl, (r1.append r2).evo (evo_with hq)⟩
@[simp] theorem f_fCat {a b : WE} {r : Env} {R : Sl → Prop} : (fCat a b).f r R = a.f r fun x => b.f r fun y => ∃ xs ys, x = .lst xs ∧ y = .lst ys ∧ xs.length + ys.length ≤ sizeLine ∧ R (.ol (xs ++ ys)) := Eq.trans rfl rfl
namespace X
open Res
def asLs : D → Res (List D)
  | .lst ds => .ok ds
  | _ => .no
@[simp] theorem asLs_lst {ds} : asLs (.lst ds) = .ok ds := Eq.trans rfl rfl
theorem alw {α : Type} {d : D} {k : List D → Res α} {R : α → Prop} {E : Ex → Prop} (h : ((asLs d).bind k).wp R E) : ∃ b, d = .lst b ∧ (k b).wp R E := by
  cases d with
  | lst b => exact ⟨b, rfl, h⟩
  | _ => exact h.elim
def fCat (a b : XE) : XF := ⟨DS.fCat a.m b.m, fun s => (a.f s).bind fun x => (b.f s).bind fun y => (asLs x).bind fun xs => (asLs y).bind fun ys => fit (xs.length + ys.length) (.ok (.ol (xs ++ ys))), z2 a.z b.z, fun r R h => a.h r _ (wpb h fun x h => b.h r _ (wpb h fun y h => by
  cases x with
  | lst xs => cases y with
    | lst ys => exact ⟨xs, ys, rfl, rfl, fitw h⟩
    | _ => exact h.elim
  | _ => exact h.elim))⟩
@[simp] theorem fCat_f {a b : XE} {s : List Sl} : (fCat a b).f s = (a.f s).bind fun x => (b.f s).bind fun y => (asLs x).bind fun xs => (asLs y).bind fun ys => fit (xs.length + ys.length) (.ok (.ol (xs ++ ys))) := Eq.trans rfl rfl
section
variable {α β : Type} {i : XI} {g : XG} {b : XS} {vs : List Nat} {s : List Sl}
/-- a loop whose invariant looks at what is left -/
theorem sForV_runI (xs : List α) (enc : α → D) (en : β → List Sl) (st : β → α → Stp β) (I : List α → β → Prop) (a : β) (hi : i.f s = .ok (xs.map enc)) (hs : wipeL s vs = en a) (hI : I xs a)
    (h : ∀ x l a, I (x :: l) a → ((g.f (enc x) (en a)).calm.bind b.f).bind (fun o => .ok (nrmO vs o)) = .ok (stO en (st a x)) ∧ ∀ a', st a x = .go a' → I l a') : (X.sForV vs i g b).f s = .ok (endL en (runE st xs a)) := by
  rw [sForV_f, hi, ok_bind]
  clear hi
  induction xs generalizing a s with
  | nil => show Res.ok (Out.nx (wipeL s vs)) = _; rw [hs]; rfl
  | cons x xs ih =>
    obtain ⟨h1, h2⟩ := h x xs a hI
    show ((g.f (enc x) (wipeL s vs)).calm.bind fun s1 => (b.f s1).bind fun o => turnV vs o (forFV vs g.f b.f (xs.map enc))) = _
    rw [hs]
    unfold runE
    generalize (g.f (enc x) (en a)).calm = q1 at h1
    match q1, h1 with
    | .ok s1, h1 =>
      have h1 : (b.f s1).bind (fun o => .ok (nrmO vs o)) = .ok (stO en (st a x)) := h1
      show ((b.f s1).bind fun o => turnV vs o (forFV vs g.f b.f (xs.map enc))) = _
      generalize b.f s1 = q2 at h1
      match q2, h1 with
      | .ok o, h1 =>
        have h1 : nrmO vs o = stO en (st a x) := by
          have h3 : Res.ok (nrmO vs o) = .ok (stO en (st a x)) := h1
          injection h3
        show turnV vs o (forFV vs g.f b.f (xs.map enc)) = _
        cases q : st a x with
        | go a' =>
          rw [q] at h1
          match o, h1 with
          | .nx s', h1 => injection h1 with h1; exact ih a' h1 (h2 a' q)
          | .ct s', h1 => injection h1 with h1; exact ih a' h1 (h2 a' q)
        | out a' =>
          rw [q] at h1
          match o, h1 with
          | .bk s', h1 => injection h1 with h1; show Res.ok (Out.nx (wipeL s' vs)) = _; rw [h1]; rfl
        | ret z =>
          rw [q] at h1
          match o, h1 with
          | .rt z', h1 => injection h1 with h1; show Res.ok (Out.rt z') = _; rw [h1]; rfl
theorem sForV_foldI (xs : List α) (enc : α → D) (en : β → List Sl) (st : β → α → β) (I : List α → β → Prop) (a : β) (hi : i.f s = .ok (xs.map enc)) (hs : wipeL s vs = en a) (hI : I xs a)
    (h : ∀ x l a, I (x :: l) a → ((g.f (enc x) (en a)).calm.bind b.f).bind (fun o => .ok (nrmO vs o)) = .ok (.nx (en (st a x))) ∧ I l (st a x)) : (X.sForV vs i g b).f s = .ok (.nx (en (xs.foldl st a))) := by
  rw [sForV_runI xs enc en (fun a x => .go (st a x)) I a hi hs hI fun x l a ha => ⟨(h x l a ha).1, fun a' e => by injection e with e; rw [← e]; exact (h x l a ha).2⟩, runE_fold]
  rfl
end
end X
section
variable {r : Env} {W : WEnds} {R : D → Prop} {RT : Bool → Prop} {RS : Sl → Prop} {RL : List Sl → Prop} {RY : D → Env → Prop} {RE : Env → Prop}
@[simp] theorem f_mNil : mPs [] r RL = RL [] := Eq.trans rfl rfl
@[simp] theorem f_mE {m : WE} {ps : List MP} : mPs (.e m :: ps) r RL = m.f r fun d => mPs ps r fun zs => RL (.sh d :: zs) := Eq.trans rfl rfl
@[simp] theorem f_mF {m : WF} {ps : List MP} : mPs (.f m :: ps) r RL = m.f r fun x => mPs ps r fun zs => RL (x :: zs) := Eq.trans rfl rfl
@[simp] theorem f_sMany {is : List Nat} {ps : List MP} : (sMany is ps).f W r = mPs ps r fun zs => (∀ i ∈ is, i < r.sl.length) ∧ W.nx (layR r is zs) := Eq.trans rfl rfl
@[simp] theorem layR_nil {zs} : layR r [] zs = r := by rw [layR]; intros; simp_all
@[simp] theorem layR_cons {i is z zs} : layR r (i :: is) (z :: zs) = layR (r.at i z) is zs := by rw [layR]
@[simp] theorem f_sWhile {c : WT} {b : WS} : (sWhile c b).f W r = ∃ J : Nat → Env → Prop, (∃ m, m ≤ sizeLine ∧ J m r) ∧ ∀ m r, J m r → c.f r fun k => if k = true then b.f { nx := fun r' => ∃ m', m' < m ∧ J m' r', ct := fun r' => ∃ m', m' < m ∧ J m' r', bk := W.nx, rt := W.rt } r else W.nx r := Eq.trans rfl rfl
@[simp] theorem f_ePeek {i : Nat} {m : WE} : (ePeek i m).f r R = ∃ ds, r.sl[i]? = some (.ol ds) ∧ m.f (r.at i (.sh (.lst ds))) fun d => flat d = true ∧ R d := Eq.trans rfl rfl
@[simp] theorem f_tPeek {i : Nat} {m : WT} : (tPeek i m).f r RT = ∃ ds, r.sl[i]? = some (.ol ds) ∧ m.f (r.at i (.sh (.lst ds))) RT := Eq.trans rfl rfl
@[simp] theorem f_fPeek {i : Nat} {m : WF} : (fPeek i m).f r RS = ∃ ds, r.sl[i]? = some (.ol ds) ∧ m.f (r.at i (.sh (.lst ds))) fun x => (∃ es, x = .ol es ∧ es.all flat = true) ∧ RS x := Eq.trans rfl rfl
@[simp] theorem f_pPop {i : Nat} {m : WE} : (pPop i m).f r RY = ∃ ds, r.sl[i]? = some (.ol ds) ∧ m.f r fun z => ∃ n j d, z = .int n ∧ ixN ds.length n = some j ∧ ds[j]? = some d ∧ RY d (r.at i (.ol (ds.eraseIdx j))) := Eq.trans rfl rfl
@[simp] theorem f_pPop0 {i : Nat} : (pPop0 i).f r RY = ∃ ds d, r.sl[i]? = some (.ol ds) ∧ ds[ds.length - 1]? = some d ∧ RY d (r.at i (.ol ds.dropLast)) := Eq.trans rfl rfl
@[simp] theorem f_sSetY {i : Nat} {m : WY} : (sSetY i m).f W r = m.f r fun d r' => W.nx (r'.put i d) := Eq.trans rfl rfl
@[simp] theorem f_sAppY {i : Nat} {m : WY} : (sAppY i m).f W r = ((∃ ds0, r.sl[i]? = some (.ol ds0)) ∧ m.f r fun d r' => ∃ ds, r'.sl[i]? = some (.ol ds) ∧ ds.length < sizeLine ∧ W.nx (r'.at i (.ol (ds ++ [d])))) := Eq.trans rfl rfl
@[simp] theorem f_fToL {a : WA} : (fToL a).f r RS = a.f r fun xs => ∃ d ds, xs = [d] ∧ (d = .tup ds ∨ d = .lst ds) ∧ RS (.ol ds) := Eq.trans rfl rfl
@[simp] theorem f_fRg {a : WE} : (fRg a).f r RS = a.f r fun z => ∃ n : Int, z = .int n ∧ -(2 ^ 62) ≤ n ∧ n.toNat ≤ sizeLine ∧ RS (.ol (upto n.toNat)) := Eq.trans rfl rfl
@[simp] theorem f_eDisp {ks : List Key} {a : WA} : (eDisp ks a).f r R = a.f r fun ds => R (.dic ks ds) := Eq.trans rfl rfl
@[simp] theorem f_gNs {is : List Nat} {d : D} : gNs is d r RE = ∃ ds, d = .tup ds ∧ ds.length = is.length ∧ RE (putAll r is ds) := Eq.trans rfl rfl
theorem ixN_nat {n j : Nat} (h : j < n) : ixN n (j : Int) = some j := by
  unfold ixN
  simp
  omega
end
end DS
/-! DS43: constants of the module's that are tuples of texts. -/
namespace DS
open PySem PySem.Spec PyProof.Rows L2
def txs : List Value → Option (List Str)
  | [] => some []
  | .str x _ :: r => (txs r).map (x :: ·)
  | _ :: _ => none
theorem txs_vals : ∀ {vs : List Value} {zs : List Str}, txs vs = some zs → Vals (zs.map V.str) vs
  | [], _, h => by cases h; exact .nil
  | v :: r, zs, h => by
    cases v with
    | str x t =>
      have h : (txs r).map (x :: ·) = some zs := h
      cases e : txs r with
      | none => rw [e] at h; cases h
      | some ys =>
        rw [e] at h
        cases h
        exact .cons ⟨t, rfl⟩ (txs_vals e)
    | _ => cases h
/-- the name stands for a tuple of these texts -/
def tupB (K : PySem.W.Frag) (x : Str) (zs : List Str) : Bool := match PySem.W.nsIn K mainGlobals x with
  | some (some (.ref a)) => match K.lookup a with
    | some o => match o.cls, o.data with
      | .type t, .seq its _ => decide (t = "tuple") && decide (txs its.toList = some zs) && decide (its.size ≤ 4096)
      | _, _ => false
    | none => false
  | _ => false
theorem Glob.tupS {K : PySem.W.Frag} {h : Heap} {mg : Str → Option Value} {x : Str} {zs : List Str} (X : K.In h) (G : h.Ns mainGlobals mg) (a : tupB K x zs = true) (hs : zs.all sokB = true) : Glob K mg x (.tup (zs.map .str)) := by
  unfold tupB at a
  split at a
  · rename_i b e
    split at a
    · rename_i o lk
      split at a
      · rename_i t its n hc hd
        simp only [Bool.and_eq_true, decide_eq_true_eq] at a
        obtain ⟨⟨rfl, h2⟩, h3⟩ := a
        have hv := txs_vals h2
        have hl := hv.length
        refine ⟨⟨.ref b, .ref b, PySem.W.mg_of X G e, rfl, fun c H => .tup (.inr ⟨o, its, n, lk, hc, hd, Nat.le_trans h3 (by rw [sizeLine_eq]; decide), hv⟩) ?_ (AtL.of_strs zs fun z hz => sok_of (List.all_eq_true.mp hs z hz))⟩⟩
        rw [hl, Array.length_toList]
        exact Nat.le_trans h3 (by rw [sizeLine_eq]; decide)
      · cases a
    · cases a
  · cases a
end DS
namespace SX
open PySem PySem.W PySem.HandSPX
section
variable {M : Model} {A : Around} {E : Value → Shared → Prop} {h : Heap} {g : Array GenState} {d : Drawn} {t : Nat} {os : OsState}
variable {nm q : Str} {C N : Addr} {bs bm bmB : List Value} {hdct : Bool} {sn : List Str} {sub : List Value} {ab : Bool} {col : Option Bool} {dd : Option Addr} {k0 k1 k2 k3 k5 : Option Value} {B newId initId : String}
theorem check_new_kw (F : ExcBaseFacts B newId initId bmB) (hT : ∀ X : String, bm.contains (.type X) = bmB.contains (.type X)) {rest : List Value} {kw : List (Str × Value)} {Q : Unit → Shared → Prop}
    (hC : h.get? C = some (excClassObj nm q C N bs bm hdct sn sub ab col dd k0 k1 k2 k3 k5 newId)) (hq : Q () ⟨h, g, d, t, os⟩) : wpAny M A (checkBuiltinCall newId ⟨.ref C :: rest, kw⟩) Q E ⟨h, g, d, t, os⟩ := by
  have hcont : (Value.ref C :: bm).contains (.type B) = true := by rw [List.contains_cons, hT, F.hasB, Bool.or_true]
  have hstar := F.noStar
  simp only [checkBuiltinCall, F.newKind, F.newSplit, F.newRow]
  repeat (first | refine wpAny_loadPart_at hC ?_ | (refine wpAny_isSubtype_exc hC ?_; rw [hcont]) | refine wpAny_staticBase_exc hC ?_ | refine wpAny_madeBy_exc hC ?_ | simp only [bne_self_eq_false, Bool.false_eq_true, if_false] | wp_step)
  exact hq
end
section
variable {prog : Program} {w : World} {A : Around} {E : Value → Shared → Prop} {R : Result → Shared → Prop} {h : Heap} {g : Array GenState} {d : Drawn} {t : Nat} {os : OsState}
variable {nm q : Str} {C N : Addr} {bs bm bmB : List Value} {hdct : Bool} {sn : List Str} {sub : List Value} {ab : Bool} {col : Option Bool} {dd : Option Addr} {k0 k1 k2 k3 k5 : Option Value} {B newId initId : String}

theorem new_kw (F : ExcBaseFacts B newId initId bmB) (hT : ∀ X : String, bm.contains (.type X) = bmB.contains (.type X)) {rest : List Value} {kw : List (Str × Value)}
    (hC : h.get? C = some (excClassObj nm q C N bs bm hdct sn sub ab col dd k0 k1 k2 k3 k5 newId))
    (hq : R (.ok (.ret (.ref (h.objs.size + 1)))) ⟨(h.push { cls := .type "tuple", data := .seq rest.toArray }).push
      { cls := .ref C, data := .fields #[.ref h.objs.size, .none, .none, .none, .bool false, .none] }, g, d, t, os⟩) (hrest : rest.length ≤ sizeLine) :
    codeAny (model prog w) A (.builtin newId ⟨.ref C :: rest, kw⟩) R ⟨h, g, d, t, os⟩ := by
  have hends := F.ends
  have hcB : (Value.ref C :: bm).contains (.type B) = true := by rw [List.contains_cons, hT, F.hasB, Bool.or_true]
  have hcA : (Value.ref C :: bm).contains (.type "AttributeError") = false := by rw [List.contains_cons, hT, F.noAttr]; rfl
  have hcN : (Value.ref C :: bm).contains (.type "NameError") = false := by rw [List.contains_cons, hT, F.noName]; rfl
  refine codeAny_builtinAt F.entry ?_
  unfold Builtin.«BaseException.__new__»
  refine wpAt_bind ?_
  show wpAt _ _ _ (stack >>= _) _ _ _
  refine wpAt_bind (wpAt_stack fun p below => wpAt_of_wpAny ?_)
  wp_walk
  refine wpAt_of_wpAny ?_
  rw [F.owner]
  repeat (first | with_reducible refine wpAny_madeHere_exc F.canon hC ?_ | with_reducible refine wpAny_loadPart_at hC ?_ | (with_reducible refine wpAny_isSubtype_exc hC ?_; first | rw [hcB] | rw [hcA] | rw [hcN]) | wp_step)
  show R _ _
  rw [Heap.size_push]
  exact hq

theorem type_call_kw (F : ExcBaseFacts B newId initId bmB) (hT : ∀ X : String, bm.contains (.type X) = bmB.contains (.type X)) {rest : List Value} {kw : List (Str × Value)} {fI : Addr} {Q : Fin → Shared → Prop}
    (hC : h.get? C = some (excClassObj nm q C N bs bm hdct sn sub ab col dd k0 k1 k2 k3 k5 newId))
    (hi : W.Looks (model prog w) h (typeLookup (.ref C) "__init__") (some (.ref fI))) (hb : ∀ self, W.Looks (model prog w) h (bindSpecial (.ref fI) self) (.ref fI, [self])) (hrest : rest.length ≤ sizeLine)
    (hq : codeAny (model prog w) A (.call (.ref fI) ⟨.ref (h.objs.size + 1) :: rest, kw⟩)
      (fun r s' => match r with | .ok (.ret v) => v = .none ∧ Q (.done (.ret (.ref (h.objs.size + 1)))) s' | .ok _ => False | .error e => E e s')
      ⟨(h.push (W.kdv_tup rest)).push (excO C h.objs.size), g, d, t, os⟩) :
    wpAny (model prog w) A (Builtin.«type.__call__» ⟨.ref C :: rest, kw⟩) Q E ⟨h, g, d, t, os⟩ := by
  repeat (first | with_reducible refine wpAny_loadPart_at hC ?_ | with_reducible refine wpAny_madeBy_exc hC ?_ | wp_step)
  refine codeAny_call_builtin_code (Code.quiet_builtin _ F.quiet) (check_new_kw F hT hC ?_)
  refine new_kw F hT hC ?_ hrest
  show wpAny _ _ _ _ _ _
  have k : ∀ b o, h.get? b = some o → ((h.push (W.kdv_tup rest)).push (excO C h.objs.size)).get? b = some o := fun b o e => Heap.get?_push_of_some _ (Heap.get?_push_of_some _ e)
  have hC₁ := k _ _ hC
  have hget : ((h.push (W.kdv_tup rest)).push (excO C h.objs.size)).get? (h.objs.size + 1) = some (excO C h.objs.size) := by heap_get
  have hcC : (Value.ref C :: bm).contains (.ref C) = true := by simp
  have i1 := hi.keeps k
  have b1 := (hb (.ref (h.objs.size + 1))).keeps k
  unfold isInstance
  repeat (first | with_reducible refine wpAny_loadPart_at hget ?_ | (with_reducible refine wpAny_isSubtype_exc hC₁ ?_; rw [hcC]) | wp_step)
  show wpAny _ _ (typeLookup (.ref C) _) _ _ _
  refine i1.at ?_
  refine wpAny_holding (wpAny_bind (b1.at ?_))
  refine wpAny_bind (wpAny_call (codeAny_mono hq fun r s' z => ?_))
  rcases r with e | (v | _ | _ | _) <;> first | exact z | exact z.elim | skip
  obtain ⟨rfl, z⟩ := z
  first
    | exact wpAny_pure (wpAny_pure z)
    | (wp_walk; exact z)

theorem call_kw (F : ExcBaseFacts B newId initId bmB) (hT : ∀ X : String, bm.contains (.type X) = bmB.contains (.type X)) {rest : List Value} {kw : List (Str × Value)} {fI : Addr}
    (hC : h.get? C = some (excClassObj nm q C N bs bm hdct sn sub ab col dd k0 k1 k2 k3 k5 newId))
    (hi : W.Looks (model prog w) h (typeLookup (.ref C) "__init__") (some (.ref fI))) (hb : ∀ self, W.Looks (model prog w) h (bindSpecial (.ref fI) self) (.ref fI, [self])) (hrest : rest.length ≤ sizeLine)
    (hq : codeAny (model prog w) (A.under (.builtin "type.__call__" ⟨.ref C :: rest, kw⟩)) (.call (.ref fI) ⟨.ref (h.objs.size + 1) :: rest, kw⟩) (W.InitBack (h.objs.size + 1) R)
      ⟨(h.push (W.kdv_tup rest)).push (excO C h.objs.size), g, d, t, os⟩) :
    codeAny (model prog w) A (.call (.ref C) ⟨rest, kw⟩) R ⟨h, g, d, t, os⟩ := by
  have f1 := tc_lookup
  have f2 := tc_bind (.ref C)
  have hTy : (⟨h, g, d, t, os⟩ : Shared).TypeIs (.ref C) "type" := ⟨_, hC, rfl⟩
  refine codeAny_of_tree ?_
  show wpAny _ _ (callAny (.ref C) _) _ _ _
  repeat (any_goals (first | assumption | with_reducible refine wpAny_loadPart_at hC ?_ | wp_step))
  refine ⟨rfl, ?_⟩
  refine codeAny_call_builtin_at (Code.quiet_builtin _ (by decide +kernel)) entry_typeCall (wpAny_check_type_call_sub hC (type_call_kw F hT hC hi hb hrest ?_))
  refine codeAny_mono hq fun r s' z => ?_
  rcases r with e | (v | _ | _ | _) <;> exact z
end
end SX
namespace SX
open PySem PySem.W PySem.HandSPX PySem.Calls PyProof.Rows
/-- what the written part says of a class whose __init__ says super().__init__(text), then self.f = f -/
structure SupC (P : Program) (K : Frag) (C fI : Addr) (f : Str) : Prop where
  cls : ∃ nm q N bs bm sn sub ab col dd k0 k1 k2 k3 k5, K.lookup C = some (excClassObj nm q C N bs bm true sn sub ab col dd k0 k1 k2 k3 k5 "ValueError.__new__") ∧ refsVE bm = true
  init : findIn K (.ref C) "__init__" = some (some (.ref fI))
  tyI : typeIn K (.ref fI) = some (.type "function")
  fn : ∃ (name qual : Str) (params : Arguments) (scope : Scope) (dV kV doc pm ct oc : Value) (an od : Option Addr) (osl : Array (Option Value)) (cc cda : Addr) (txt : Str) (k : Nat) (p0 p1 p2 p3 p4 p5 p6 p7 p8 p9 : Pos)
      (oc2 cl2 : Value) (od2 cld : Option Addr) (osl2 csl : Array (Option Value)) (vs : Array Value) (file : Str) (tf : Tok) (ar : Arg),
    K.lookup fI = some ⟨oc, od, .func (ksFn name qual params [.Expr (.Call (.Attribute (.Call (.Name "super" p0) [] [] p1) "__init__" p2) [.Constant (.str txt) k p3] [] p4) p5, .Assign [.Attribute (.Name "self" p6) f p7] (.Name f p8) p9] scope dV kV doc pm an (.ref cda) ct cc), osl⟩ ∧
    (p2.endLine == p4.line) = true ∧ codeIn K (.ref cda) qual = true ∧ (params.posonlyargs ++ params.args).head? = some ar ∧ ar.arg = "self" ∧
    K.lookup cda = some ⟨oc2, od2, .fields vs, osl2⟩ ∧ vs[2]? = some (.str file tf) ∧ ((P.main.file : Str) == file) = true ∧
    K.lookup cc = some ⟨cl2, cld, .cell (some (.ref C)), csl⟩ ∧
    scope.kind = .function ∧ scope.isCoroutine = false ∧ scope.isGenerator = false ∧ (∀ x ∈ scope.names, x.2 ≠ .cell) ∧
    scope.names.lookup ("super" : Str) = some .globalImplicit ∧ scope.names.lookup ("__class__" : Str) = some .free ∧ scope.names.lookup ("self" : Str) = some .local ∧ scope.names.lookup f = some .local ∧
    (∀ a b, bindArgs (ksFn name qual params [.Expr (.Call (.Attribute (.Call (.Name "super" p0) [] [] p1) "__init__" p2) [.Constant (.str txt) k p3] [] p4) p5, .Assign [.Attribute (.Name "self" p6) f p7] (.Name f p8) p9] scope dV kV doc pm an (.ref cda) ct cc) ⟨[a, b], []⟩ = pure [(("self" : Str), a), (f, b)]) ∧
    (∀ a b, bindArgs (ksFn name qual params [.Expr (.Call (.Attribute (.Call (.Name "super" p0) [] [] p1) "__init__" p2) [.Constant (.str txt) k p3] [] p4) p5, .Assign [.Attribute (.Name "self" p6) f p7] (.Name f p8) p9] scope dV kV doc pm an (.ref cda) ct cc) ⟨[a], [(f, b)]⟩ = pure [(("self" : Str), a), (f, b)])
  sup : ks_superIn K C C "__init__" = some (some (.builtin "ValueError.__init__"))
  sub : subIn K (.ref C) (.type "ValueError") = some true
  mro : mroIn K C (.ref C) = some true
  third : nsIn K cStatics "thirdparty.any" = some none
  noS : nsIn K mainGlobals "super" = some none
  sa : findIn K (.ref C) "__setattr__" = some (some (.builtin "object.__setattr__"))
  nof : findIn K (.ref C) f = some none
  top : (P.main.scope.names.lookup ("super" : Str)).isSome = false
  ne : f ≠ "self"
  nd : (f == ("__debug__" : Str)) = false

section
variable {prog : Program} {w : World} {A : Around} {E : Value → Shared → Prop} {s : Shared} {K : Frag}
variable {h : Heap} {g : Array GenState} {d : Drawn} {t : Nat} {os : OsState}
/-- super() at the head -/
theorem node {base : Heap} {L x C f cc cda : Addr} {m mg : Str → Option Value} {ox : Obj} {odx : Option Obj} {body : List Stmt} {q : Str} {scope : Scope} {p0 p1 : Pos} {attr : Str} {whole : Sem Value} {fd : FuncData} {ar : Arg} {vs : Array Value} {file : Str} {tf : Tok} {oc ccl cl : Value} {od cdd cld : Option Addr} {osl ccs csl : Array (Option Value)} {cdD : ClassData} {Q : Value → Shared → Prop}
    (hns : s.heap.Ns L m) (X : K.In s.heap) (hG : s.heap.Ns mainGlobals mg) (hB : ∃ mb, s.heap.Ns builtinsNs mb ∧ ∀ x : Str, x ≠ "__name__" → mb x = bootBuiltins x) (hmg : mg "super" = none)
    (hf : K.lookup f = some ⟨oc, od, .func fd, osl⟩) (hp : (fd.params.posonlyargs ++ fd.params.args).head? = some ar) (hv : m ar.arg = some (.ref x)) (I : InstAt s.heap x ox C odx)
    (hcode : K.lookup cda = some ⟨ccl, cdd, .fields vs, ccs⟩) (hvs : vs[2]? = some (.str file tf)) (hfile : ((prog.main.file : Str) == file) = true)
    (hcell : K.lookup cc = some ⟨cl, cld, .cell (some (.ref C)), csl⟩) (hD : clsIn K C = some cdD) (hsub : mroIn K C (.ref C) = some true)
    (hat : (attr == ("__class__" : Str)) = false) (hks : scope.names.lookup ("super" : Str) = some .globalImplicit) (hkc : scope.names.lookup ("__class__" : Str) = some .free) (hka : scope.names.lookup ar.arg = some .local) (hk : scope.kind = .function)
    (htop : (prog.main.scope.names.lookup ("super" : Str)).isSome = false)
    (h : ∀ h', h'.get? s.heap.objs.size = some (ks_superObj C x C) → (∀ y o, s.heap.get? y = some o → h'.get? y = some o) → Q (.ref s.heap.objs.size) { s with heap := h' }) :
    _root_.PySem.wpAt (model prog w) A (.func body (ksEnv q scope L f (.ref cda) cc)) (attributeBase (.Call (.Name "super" p0) [] [] p1) attr (ksEnv q scope L f (.ref cda) cc) whole) Q E s := by
  obtain ⟨mb, hb1, hb2⟩ := hB
  have hboot : bootBuiltins "super" = some (.type "super") := by first | boot_by_name | rfl | kernel_rfl
  obtain ⟨hh, g, d, t, os⟩ := s
  obtain ⟨oD, hD1, hD2⟩ : ∃ oD, hh.get? C = some oD ∧ oD.data = .cls cdD := by
    unfold clsIn at hD
    split at hD
    · rename_i c d cd' sl ho
      cases hD
      exact ⟨_, X _ _ ho, rfl⟩
    · cases hD
  refine ks_wpAt_super_base (env := ksEnv q scope L f (.ref cda) cc) hks hkc hat rfl (X _ _ hf) rfl hp rfl (X _ _ hcode) rfl hvs hfile htop ?_
  refine ks_loadName_global hk hks (loadGlobal_builtin (env := ksEnv q scope L f (.ref cda) cc) hG hmg hb1 ((hb2 _ (by decide +kernel)).trans hboot) ⟨rfl, ?_⟩)
  refine wpAny_loadName_free hk hkc rfl ⟨_, X _ _ hcell, rfl⟩ ?_
  refine wpAny_loadName_local hk hka hns hv ?_
  refine ks_wpAny_isType_cls hD1 hD2 ⟨rfl, ?_⟩
  refine ks_wpAny_call_super hD1 hD2 I.at_ I.cls (fun c e => ?_) (looks_mroIn X hsub) (fun h' e k => h h' e k)
  have := I.no
  unfold notCls at this
  rw [e] at this
  exact Bool.noConfusion this

/-- the built-in __init__ bound to an exception, called: the args are laid anew -/
theorem call_mw {nm q : Str} {C N u e t0 : Addr} {bs bm : List Value} {hdct : Bool} {sn : List Str} {sub : List Value} {ab : Bool} {col : Option Bool} {dd : Option Addr} {k0 k1 k2 k3 k5 : Option Value} {rest : List Value} {Q : Value → Shared → Prop}
    (hC : h.get? C = some (excClassObj nm q C N bs bm hdct sn sub ab col dd k0 k1 k2 k3 k5 "ValueError.__new__")) (he : h.get? e = some (excO C t0)) (hu : h.get? u = some (kxs_mw "ValueError.__init__" e)) (hrest : rest.length ≤ sizeLine)
    (hq : ∀ h' t1, (∀ b o, b ≠ e → h.get? b = some o → h'.get? b = some o) → h'.get? e = some (excO C t1) → Q .none ⟨h', g, d, t, os⟩) :
    wpAny (model prog w) A (call (.ref u) rest) Q E ⟨h, g, d, t, os⟩ := by
  refine wpAny_call (codeAny_of_tree ?_)
  show wpAny _ A.in1 (callAny (.ref u) ⟨rest, []⟩) _ _ _
  simp only [callAny]
  refine wpAny_bind (wpAny_load hu ?_)
  simp only [kxs_mw, show (Value.type "method-wrapper" == Value.type "method" || Value.type "method-wrapper" == Value.type "builtin_function_or_method" || Value.type "method-wrapper" == Value.type "method-wrapper") = true by decide, if_true]
  refine KFB.if_so (by decide) ?_
  refine wpAny_bind (check_bound_init F.excBase_ValueError.toExcCallFacts hC he rfl ?_)
  refine wpAny_bind (wpAny_pure (wpAny_pure ?_))
  refine ⟨plainId_quiet F.excBase_ValueError.init.plain _, codeAny_builtin F.excBase_ValueError.initEntry ?_⟩
  rw [Around.under_plainId F.excBase_ValueError.init.plain _]
  wp_walk
  refine hq _ h.objs.size (fun b o hb ho => ?_) ?_
  · rw [Heap.get?_update_other _ _ (Ne.symm hb)]
    exact Heap.get?_push_of_some _ ho
  · rw [Heap.get?_update_self _ (Heap.get?_push_of_some _ he) rfl]
    rfl
end
end SX
namespace SX
open PySem PySem.W PySem.HandSPX PySem.Calls PyProof.Rows
variable {P : Program} {w : World} {A : Around} {K : Frag} {h : Heap} {g : Array GenState} {d : Drawn} {t : Nat} {os : OsState} {R : Result → Shared → Prop}
theorem he_super {p0 p1 p2 p3 p4 : Pos} {txt : Str} {k : Nat} {env : Env} (hpos : (p2.endLine == p4.line) = true) :
    eval (.Call (.Attribute (.Call (.Name "super" p0) [] [] p1) "__init__" p2) [.Constant (.str txt) k p3] [] p4) env = (do
      let ov ← attributeBase (.Call (.Name "super" p0) [] [] p1) "__init__" env (eval (.Call (.Name "super" p0) [] [] p1) env)
      standAt p2.atName
      let (f, first) ← holding [ov] (getMethod ov "__init__" (do return (← importBound (.Call (.Name "super" p0) [] [] p1) env).getD true))
      callWith p4 f first (backTo p4 (starEach [.Constant (.str txt) k p3] env)) []) := by
  have key : methodCallPos true (.Call (.Name "super" p0) [] [] p1) env p2 p4 = pure p4 := by
    unfold methodCallPos
    rw [hpos]
    rfl
  show (attributeBase (.Call (.Name "super" p0) [] [] p1) "__init__" env (eval (.Call (.Name "super" p0) [] [] p1) env) >>= fun ov => standAt p2.atName >>= fun _ => (holding [ov] (getMethod ov "__init__" (do return (← importBound (.Call (.Name "super" p0) [] [] p1) env).getD true)) >>= fun x => methodCallPos true (.Call (.Name "super" p0) [] [] p1) env p2 p4 >>= fun cp => callWith cp x.1 x.2 (backTo p4 (starEach [.Constant (.str txt) k p3] env)) [])) = _
  rw [key]
  rfl
/-- __init__ walked -/
theorem run_init {C fI x t0 : Addr} {f : Str} {v : Value} {args : Args} {mg : Str → Option Value} (T : SupC P K C fI f) (X : K.In h) (hG : h.Ns mainGlobals mg) (hB : ∃ mb, h.Ns builtinsNs mb ∧ ∀ x : Str, x ≠ "__name__" → mb x = bootBuiltins x) (hmg : mg "super" = none) (lim : h.NoLimit) (hroom : A.depth < recursionLimit)
    (hx : h.get? x = some (excO C t0)) (hKx : K.lookup x = none) (ha : args = ⟨[.ref x, v], []⟩ ∨ args = ⟨[.ref x], [(f, v)]⟩)
    (hq : ∀ h' t' t1 dx, (∀ b o, b ≠ x → h.get? b = some o → h'.get? b = some o) → h.objs.size ≤ dx → h'.get? x = some { cls := .ref C, dict := some dx, data := .fields #[.ref t1, .none, .none, .none, .bool false, .none] } → h'.Ns1 dx (fun y => if y = f then some v else none) →
      R (.ok (.ret .none)) ⟨h', g, d, t', os⟩) :
    codeAny (model P w) A (.call (.ref fI) args) R ⟨h, g, d, t, os⟩ := by
  obtain ⟨nm, q, N, bs, bm, sn, sub, ab, col, dd, k0, k1, k2, k3, k5, hC, hbm⟩ := T.cls
  obtain ⟨name, qual, params, scope, dV, kV, doc, pm, ct, oc, an, od, osl, cc, cda, txt, k, p0, p1, p2, p3, p4, p5, p6, p7, p8, p9, oc2, cl2, od2, cld, osl2, csl, vs, file, tf, ar, lk, hpos, hcd, hp, har, lk2, hvs, hfile, lk3, e1, e2, e3, e4, e5, e6, e7, e8, b1, b2⟩ := T.fn
  have hbind : BindsTo ⟨h, g, d, t, os⟩ (ksFn name qual params [.Expr (.Call (.Attribute (.Call (.Name "super" p0) [] [] p1) "__init__" p2) [.Constant (.str txt) k p3] [] p4) p5, .Assign [.Attribute (.Name "self" p6) f p7] (.Name f p8) p9] scope dV kV doc pm an (.ref cda) ct cc) args [(("self" : Str), .ref x), (f, v)] := by
    rcases ha with rfl | rfl
    · exact .of_eq (b1 _ _)
    · exact .of_eq (b2 _ _)
  refine ks_codeAny_call_defAt hroom (X _ _ lk) rfl lim (codeRec_of X hcd) rfl hbind e4 (fun y hy => ?_) (fun h₀ hns hk => ?_) e2 e3 e1
  · rcases List.mem_cons.mp hy with rfl | hy
    · exact e7
    · rcases List.mem_cons.mp hy with rfl | hy
      · exact e8
      · cases hy
  have X0 : K.In h₀ := X.keeps hk
  have ms : (fun y => ([(("self" : Str), (.ref x : Value)), (f, v)] : List (Str × Value)).reverse.lookup y) "self" = some (.ref x) := by
    show List.lookup ("self" : Str) [(f, v), (("self" : Str), (.ref x : Value))] = _
    rw [List.lookup_cons, show (("self" : Str) == f) = false from beq_eq_false_iff_ne.mpr T.ne.symm]
    rfl
  have mf : (fun y => ([(("self" : Str), (.ref x : Value)), (f, v)] : List (Str × Value)).reverse.lookup y) f = some v := by
    show List.lookup f [(f, v), (("self" : Str), (.ref x : Value))] = _
    rw [List.lookup_cons, beq_self_eq_true]
  have hx0 := hk _ _ hx
  have hC0 := X0 _ _ hC
  have I0 : InstAt h₀ x (excO C t0) C none := ⟨hx0, rfl, rfl, trivial⟩
  have hcl : clsIn K C = some { name := nm, bases := bs, mro := .ref C :: bm, ns := N, qualname := q, hasDict := true, slotNames := sn, subclasses := sub, abstract := ab, collection := col, hasDel := false } := by unfold clsIn; rw [hC] <;> rfl
  have xC : x ≠ C := ks_ne X0 I0 hcl
  refine ks_wpAt_execs_cons (ks_wpAt_Expr_any (ks_wpAt_MethodCall ?_ (he_super hpos)) (by show interactive (ksEnv qual scope _ fI (.ref cda) cc) = false; simp [interactive, e1]) (by rfl))
  refine node (base := h) (mg := mg) (L := h.objs.size) (x := x) (C := C) (cc := cc) (cda := cda) hns X0 (hG.keeps hk) (hB.elim fun mb z => ⟨mb, z.1.keeps hk, z.2⟩) hmg lk hp (by rw [har]; exact ms) I0 lk2 hvs hfile lk3 hcl T.mro (by decide) e5 e6 (by rw [har]; exact e7) e1 T.top fun h1 hso hk1 => ?_
  have X1 : K.In h1 := X0.keeps hk1
  have hx1 := hk1 _ _ hx0
  have I1 : InstAt h1 x (excO C t0) C none := ⟨hx1, rfl, rfl, trivial⟩
  have hm := T.sup
  unfold ks_superIn at hm
  rw [hcl] at hm
  refine kxs_getMethod kxs_ValueError hso (looks_opaque X1 T.third) (l₀ := .ref C :: bm) (fun A Q E s k q => wpAny_bind ((looks_clsIn X1 hcl) A _ E s k (wpAny_pure q))) rfl X1 hm (I1.type.andThen (looks_subIn X1 T.sub)) xC (by decide) ?_
  have hk2 : ∀ b o, h1.get? b = some o → (h1.push (kxs_mw "ValueError.__init__" x)).get? b = some o := fun b o e => Heap.get?_push_of_some _ e
  have hu : (h1.push (kxs_mw "ValueError.__init__" x)).get? h1.objs.size = some (kxs_mw "ValueError.__init__" x) := Heap.get?_push_size _ rfl
  refine kxs_callWith (i := "ValueError.__init__") (x := x) (by rfl) ?_
  refine evalArgs_plain ?_
  refine spliced_cons (wpAny_Constant_str (pos := p3) (k := k) (env := ksEnv qual scope h.objs.size fI (.ref cda) cc) (spliced_nil ⟨hu, ?_⟩))
  refine call_mw (X1.keeps hk2 _ _ hC) (hk2 _ _ hx1) hu (by show 1 ≤ sizeLine; rw [sizeLine_eq]; decide) fun h3 t1 hk3 hx3 => ?_
  -- the second statement
  have kk : ∀ b o, b ≠ x → h₀.get? b = some o → h3.get? b = some o := fun b o nb e => hk3 b o nb (hk2 _ _ (hk1 _ _ e))
  have hnx : ∀ {m : Str → Option Value} {b : Addr}, b ≠ x → h₀.Ns b m → h3.Ns b m := fun {m b} nb ⟨o, es, ep, y, r⟩ => ⟨o, es, ep, kk _ _ nb y, r⟩
  have Lx : h.objs.size ≠ x := fun z => absurd (Heap.lt_size hx) (by rw [← z]; exact Nat.lt_irrefl _)
  have hns3 := hnx Lx hns
  refine ks_wpAt_execs_cons (ks_wpAt_Assign_Attr ?_ (by rfl))
  have X3 : K.In h3 := fun b o e => by
    by_cases nb : b = x
    · rw [nb, hKx] at e; cases e
    · exact hk3 b o nb (hk2 _ _ (X1 b o e))
  refine wpAt_of_wpAny ?_
  refine wpAny_Name (wpAny_loadName_local e1 e8 hns3 mf ?_) T.nd
  refine wpAny_Name (wpAny_loadName_local e1 e7 hns3 ms ?_) (by decide)
  have I3 : InstAt h3 x (excO C t1) C none := ⟨hx3, rfl, rfl, trivial⟩
  refine set_plain X3 I3 T.sa ?_
  refine exc_osa X3 hx3 hcl (show refsVE (.ref C :: bm) = true from hbm) rfl T.nof fun h4 tk dx hk4 hdx dxx hx4 hn4 => ?_
  refine wpAt_of_wpAny (wpAny_execs_nil ?_)
  refine hq h4 tk t1 dx (fun b o nb e => ?_) ?_ hx4 hn4
  · exact hk4 b o nb (kk b o nb (hk b o e))
  · obtain ⟨oL, es, ep, hL, _⟩ := hns3
    exact Nat.le_trans (Nat.le_of_lt (Heap.lt_size hL)) hdx
end SX
namespace SX
open PySem PySem.Spec PyProof.Rows L2 DS
section
variable {X : Cx} {pins : List (Addr × Obj)} {σ : L2.St} {H : Hp} {s : Shared}
/-- two new objects laid, the second may lean on the first -/
theorem laid2 {a d : Addr} {o1 o2 : HO} {h' : Heap} {t' : Nat} (I : Inv X pins σ H s) (k : ∀ b u, s.heap.get? b = some u → h'.get? b = some u) (ha : s.heap.objs.size ≤ a) (hd : s.heap.objs.size ≤ d) (ne : d ≠ a)
    (n1 : ∀ H1, ObjOk X.prog X.w H1 h' d o1) (n2 : ∀ H1, ObjOk X.prog X.w H1 h' a o2) : Inv X pins σ (upd (upd H d o1) a o2) { s with heap := h', toks := t' } := by
  have na : H a = none := I.hok.fresh ha
  have nd : H d = none := I.hok.fresh hd
  have lta : ∀ {b : Addr} {o : Obj}, s.heap.get? b = some o → b ≠ a := fun {b o} e => Nat.ne_of_lt (Nat.lt_of_lt_of_le (Heap.lt_size e) ha)
  have ltd : ∀ {b : Addr} {o : Obj}, s.heap.get? b = some o → b ≠ d := fun {b o} e => Nat.ne_of_lt (Nat.lt_of_lt_of_le (Heap.lt_size e) hd)
  have u : Un X.fs [] H (upd (upd H d o1) a o2) s.heap h' := {
    keep := fun b o q n _ _ => k b o q
    slot := fun b o q n _ _ => ⟨o.slots, k b o q⟩
    free := fun b o q n _ => by rw [upd_ne (lta q), upd_ne (ltd q)]; exact n
    there := fun b o q _ => ⟨o, k b o q⟩
    tups := fun b xs q => by rw [upd_ne (ne_of_none q na), upd_ne (ne_of_none q nd)]; exact q
    frzs := fun b o v q => by rw [upd_ne (ne_of_none q na), upd_ne (ne_of_none q nd)]; exact q
    tbls := fun b ps q => ⟨#[], by rw [upd_ne (ne_of_none q na), upd_ne (ne_of_none q nd), q]; simp⟩ }
  refine I.un (t' := t') u fun b o q => ?_
  by_cases hb : b = a
  · subst hb
    rw [upd_same] at q
    cases q
    exact n2 _
  · rw [upd_ne hb] at q
    by_cases hb2 : b = d
    · subst hb2
      rw [upd_same] at q
      cases q
      exact n1 _
    · rw [upd_ne hb2] at q
      exact (I.hok b o q).stay (fun c v _ z => k c v z) (fun c hc => by rw [upd_ne (ne_of_none hc na), upd_ne (ne_of_none hc nd)]; exact hc) (fun c xs hc => by rw [upd_ne (ne_of_none hc na), upd_ne (ne_of_none hc nd)]; exact hc)
end
/-- what the written part says of a class without __init__ -/
structure OwnC (K : PySem.W.Frag) (C : Addr) : Prop where
  q : PySem.W.excIn K C [.type "ValueError", .type "Exception", .type "BaseException", .type "object"] "ValueError.__new__" = true
  kC : PySem.W.keepIn K (.ref C) = true
/-- a new error without fields -/
def tMk0 (C : Addr) (ta : TE) : TE := fun σ H Q => ta σ H fun _ H1 => ∀ a, H1 a = none → Q (.ref a) (upd H1 a (ExT (.ref C) none a))
/-- a new error with one field -/
def tMk1 (C : Addr) (f : Str) (ta : TE) : TE := fun σ H Q => ta σ H fun v H1 => ∀ a d, H1 a = none → H1 d = none → d ≠ a → Q (.ref a) (upd (upd H1 d (.xd [(f, v)])) a (ExT (.ref C) (some d) a))
section
variable {X : Cx} {x : Str} {C fI : Addr} {e : Expr} {ta : TE} {p pos : Pos} {f : Str}
theorem pe_own0 (T : OwnC X.K C) (gC : X.mg x = some (.ref C)) (hg : Gl X x) (he : PE X e ta) (hs : starEach [e] X.env = (false, eval e X.env) :: starEach [] X.env) (hdb : (x == ("__debug__" : Str)) = false) :
    PE X (.Call (.Name x p) [e] [] pos) (tMk0 C ta) := by
  refine ⟨fun pins s σ H Q I h => ?_⟩
  refine wpAny_Call_Name_kw (ld_glob I hg gC ?_ hdb)
  refine PySem.W.callWith_K (h₀ := X.base) I.ok.mod.kin T.kC ?_ hs (by rfl)
  rw [hs]
  show wpAny _ _ (spliced ((false, eval e X.env) :: backTo pos (starEach [] X.env))) _ _ s
  refine Calls.spliced_cons (thn (he.run pins s σ H _ I h) fun u s1 ⟨v, H1, I1, r1, q1⟩ => ?_)
  refine Calls.spliced_nil ⟨I1.kIn, ?_⟩
  show wpAny _ _ (call (.ref C) [u]) _ _ _
  obtain ⟨bm, N, nm, qn, bs, hdct, sn, sub, ab, col, dd, k0, k1, k2, k3, k5, mN, hC, hN, hni, T⟩ := exc_obj I1.kIn T.q
  refine wpAny_call_exc_subT F.excBase_ValueError T hC hN hni (fun h' a hm => ?_) (by show 1 ≤ sizeLine; rw [sizeLine_eq]; omega)
  obtain ⟨t, ht, _, _⟩ := hm.there
  have na : H1 a = none := I1.hok.gone hm.new
  exact ⟨.ref a, _, I1.laidN (t' := s1.toks) hm.keeps hm.new na (exT_ok ht ⟨rfl, rfl⟩ rfl), rfl, q1 a na⟩
theorem run_sup {pins : List (Addr × Obj)} {s : Shared} {σ : L2.St} {H : Hp} {Q : VK} {u : Value} {v : V} {args : Args} (T : SupC X.prog X.K C fI f) (hr : Room 1 X.A) (I : Inv X pins σ H s) (r : RelV v u) (ha : args = ⟨[u], []⟩ ∨ args = ⟨[], [(f, u)]⟩)
    (q : ∀ a d, H a = none → H d = none → d ≠ a → Q (.ref a) (upd (upd H d (.xd [(f, v)])) a (ExT (.ref C) (some d) a))) : wpAny (model X.prog X.w) X.A (call (.ref C) args.pos args.kw) (EP X pins σ Q) X.xe s := by
  obtain ⟨nm, qn, N, bs, bm, sn, sub, ab, col, dd, k0, k1, k2, k3, k5, hC, hbm⟩ := T.cls
  have KI := I.kIn
  have hG := I.mod.glob.keeps I.bk
  obtain ⟨mb, hb1, hb2⟩ := I.mod.blt
  have lim := I.nolimit
  have hsz := I.hok
  obtain ⟨hp, g, dr, tk, os⟩ := s
  have fin : ∀ {rest : List Value} {kw : List (Str × Value)}, (rest = [u] ∧ kw = []) ∨ (rest = [] ∧ kw = [(f, u)]) → wpAny (model X.prog X.w) X.A (call (.ref C) rest kw) (EP X pins σ Q) X.xe ⟨hp, g, dr, tk, os⟩ := by
    intro rest kw hrk
    have hrest : rest.length ≤ sizeLine := by rcases hrk with ⟨rfl, _⟩ | ⟨rfl, _⟩ <;> rw [sizeLine_eq] <;> simp
    have kk : ∀ b o, hp.get? b = some o → ((hp.push (PySem.W.kdv_tup rest)).push (PySem.HandSPX.excO C hp.objs.size)).get? b = some o := fun b o e => Heap.get?_push_of_some _ (Heap.get?_push_of_some _ e)
    have hget : ((hp.push (PySem.W.kdv_tup rest)).push (PySem.HandSPX.excO C hp.objs.size)).get? (hp.objs.size + 1) = some (PySem.HandSPX.excO C hp.objs.size) := by heap_get
    have hKx : X.K.lookup (hp.objs.size + 1) = none := by
      cases e : X.K.lookup (hp.objs.size + 1) with
      | none => rfl
      | some o =>
        have z := Heap.lt_size (KI _ _ e)
        exact absurd z (by show ¬ (hp.objs.size + 1 < hp.objs.size); omega)
    refine wpAny_call (call_kw F.excBase_ValueError (fun Y => PySem.HandSPX.refsVE_contains Y bm hbm) (KI _ _ hC) (PySem.W.looks_findIn KI T.init) (fun self => PySem.W.bind_fn KI self T.tyI) hrest ?_)
    refine run_init T (KI.keeps kk) (hG.keeps kk) ⟨mb, (hb1.keeps I.bk).keeps kk, hb2⟩ ?_ (lim.keeps kk) (hr.make C rest kw).depth hget hKx (v := u) ?_ fun h' t' t1 dx k4 hdx hx4 hn4 => ?_
    · exact PySem.W.mg_none_of I.mod.kin I.mod.glob T.noS
    · rcases hrk with ⟨rfl, rfl⟩ | ⟨rfl, rfl⟩
      · exact .inl rfl
      · exact .inr rfl
    · have hn : H (hp.objs.size + 1) = none := hsz.fresh (Nat.le_succ _)
      have hdx' : hp.objs.size ≤ dx := by
        rw [Heap.size_push, Heap.size_push] at hdx
        omega
      have hdn : H dx = none := hsz.fresh hdx'
      have dne : dx ≠ hp.objs.size + 1 := by
        rw [Heap.size_push, Heap.size_push] at hdx
        omega
      have nb : ∀ {b : Addr} {o : Obj}, hp.get? b = some o → b ≠ hp.objs.size + 1 := fun {b o} e => fun z => by have := Heap.lt_size e; rw [z] at this; exact absurd this (Nat.not_lt.mpr (Nat.le_succ _))
      exact ⟨rfl, .ref (hp.objs.size + 1), _, laid2 (t' := t') I (o1 := .xd [(f, v)]) (o2 := ExT (.ref C) (some dx) (hp.objs.size + 1)) (fun b o e => k4 b o (nb e) (kk b o e)) (Nat.le_succ _) hdx' dne (fun H1 => ⟨_, hn4, relO_put (fs := []) r fun g => True.intro⟩) (fun H1 => exT_ok hx4 ⟨rfl, rfl⟩ rfl), rfl, q _ _ hn hdn dne⟩
  rcases ha with rfl | rfl
  · exact fin (.inl ⟨rfl, rfl⟩)
  · exact fin (.inr ⟨rfl, rfl⟩)
end
end SX
/-! DS48: isinstance of an error that may have a dict; its fields read. -/
namespace SX
open PySem PySem.Spec PyProof.Rows L2 DS
/-- a tracked error's dict, if it has one, is tracked -/
def HasD (H : Hp) (dd : Option Addr) : Prop := dd = none ∨ ∃ d fs, dd = some d ∧ H d = some (.xd fs)
theorem inst_of {X : Cx} {pins : List (Addr × Obj)} {σ : L2.St} {H : Hp} {s : Shared} {a D : Addr} {dd : Option Addr} (I : Inv X pins σ H s) (ha : H a = some (ExT (.ref D) dd a)) (hd : HasD H dd) : ∃ oe od, PySem.W.InstAt s.heap a oe D od ∧ oe.dict = dd := by
  obtain ⟨⟨oe, vs, hget, hz, hv⟩, _⟩ := I.hok a _ ha
  obtain ⟨oc, od, oda, osl⟩ := oe
  obtain ⟨h1, h2⟩ := hz
  dsimp only at h1 h2 hv
  subst h1 h2 hv
  rcases hd with rfl | ⟨d, fs, rfl, e⟩
  · exact ⟨_, none, ⟨hget, rfl, rfl, trivial⟩, rfl⟩
  · have hx : ObjOk X.prog X.w H s.heap d (.xd fs) := I.hok d _ e
    obtain ⟨mA, hns, hr⟩ := hx
    obtain ⟨od, ho, hl⟩ := lookIn_ns hns
    exact ⟨_, some od, ⟨hget, rfl, rfl, ho⟩, rfl⟩
/-- isinstance(e, c), e a tracked error -/
def rIsO (K : PySem.W.Frag) : List V → Hp → VK → Prop := fun xs H Q => ∃ (a D : Addr) (dd : Option Addr) (c : V) (cv : Value) (b : Bool), xs = [.ref a, c] ∧ H a = some (ExT (.ref D) dd a) ∧ HasD H dd ∧ ExcC K D ∧ (∀ u, RelV c u → u = cv) ∧ PySem.W.kitOne K (.ref D) cv = some b ∧ Q (.bl b) H
theorem call_isO {X : Cx} : CallR X (.builtin "isinstance") (rIsO X.K) := by
  intro pins s σ H xs us Q I r h
  obtain ⟨a, D, dd, c, cv, b, rfl, ha, hd, C, hcv, e, q⟩ := h
  cases r with
  | cons rx rr =>
    cases rr with
    | cons rt rr =>
      cases rr
      cases rx
      have ec := hcv _ rt
      subst ec
      obtain ⟨oe, od, J, _⟩ := inst_of I ha hd
      exact PySem.W.kia_one (PySem.W.kitx_exc (by obtain ⟨cd, hc, _⟩ := PySem.W.any_some C.hd; rw [hc]; rfl) C.hg C.hk C.hs C.ha C.hn C.ht C.hm) I.kIn J e (fun z => nomatch z) fun tk => ⟨.bl b, H, I.kept (t' := tk) fun _ _ z => z, rfl, q⟩
/-- e.f, e a tracked error with fields -/
def tFld (K : PySem.W.Frag) (n : Str) (te : TE) : TE := fun σ H Q => te σ H fun x H1 => ∃ (a C d : Addr) (fs : List (Str × V)) (v : V), x = .ref a ∧ H1 a = some (ExT (.ref C) (some d) a) ∧ H1 d = some (.xd fs) ∧ XfC K C ∧ PySem.W.findIn K (.ref C) n = some none ∧ fs.lookup n = some v ∧ Q v H1
theorem pe_fld {X : Cx} {e : Expr} {te : TE} {pos : Pos} {n : Str} (he : PE X e te) (hb : attributeBase e n X.env (eval e X.env) = eval e X.env) : PE X (.Attribute e n pos) (tFld X.K n te) := by
  refine ⟨fun pins s σ H Q I h => ?_⟩
  refine attr_of hb (thn (he.run pins s σ H _ I h) fun u s1 hh => ?_)
  obtain ⟨x, H1, I1, rx, a, C, d, fs, v, ex, ha, ea, T, hno, l, q⟩ := hh
  subst ex
  obtain rfl : u = Value.ref a := rx
  obtain ⟨⟨oe, vs, hget, hz, hd⟩, _⟩ := I1.hok a _ ha
  have hx : ObjOk X.prog X.w H1 s1.heap d (.xd fs) := I1.hok d _ ea
  obtain ⟨mA, hns, hr⟩ := hx
  obtain ⟨od, ho, hl⟩ := lookIn_ns hns
  obtain ⟨u, hu, ru⟩ := RelO.some_of (v := v) (o := mA n) (by rw [← l]; exact hr n)
  have J : PySem.W.InstAt s1.heap a oe C (some od) := ⟨hget, hz.1, by unfold PySem.W.notCls; rw [hd] <;> rfl, by rw [hz.2]; exact ho⟩
  exact HandSPX.exc_get I1.kIn J T.ga T.gg T.exC (PySem.W.findObj_own T.hdC hno rfl (by rw [hl, hu])) (handed_of ru) ⟨v, H1, I1.tok _, ru, q⟩
section
variable {X : Cx} {x : Str} {C fI : Addr} {e : Expr} {ta : TE} {p pos kp : Pos} {f : Str}
theorem pe_sup (T : SupC X.prog X.K C fI f) (kC : PySem.W.keepIn X.K (.ref C) = true) (hr : Room 1 X.A) (gC : X.mg x = some (.ref C)) (hg : Gl X x) (he : PE X e ta) (hs : starEach [e] X.env = (false, eval e X.env) :: starEach [] X.env) (hdb : (x == ("__debug__" : Str)) = false) :
    PE X (.Call (.Name x p) [e] [] pos) (tMk1 C f ta) := by
  refine ⟨fun pins s σ H Q I h => ?_⟩
  refine wpAny_Call_Name_kw (ld_glob I hg gC ?_ hdb)
  refine PySem.W.callWith_K (h₀ := X.base) I.ok.mod.kin kC ?_ hs (by rfl)
  rw [hs]
  show wpAny _ _ (spliced ((false, eval e X.env) :: backTo pos (starEach [] X.env))) _ _ s
  refine Calls.spliced_cons (thn (he.run pins s σ H _ I h) fun u s1 ⟨v, H1, I1, r1, q1⟩ => ?_)
  refine Calls.spliced_nil ⟨I1.kIn, ?_⟩
  exact run_sup (args := ⟨[u], []⟩) T hr I1 r1 (.inl rfl) q1
theorem pe_supK (T : SupC X.prog X.K C fI f) (kC : PySem.W.keepIn X.K (.ref C) = true) (hr : Room 1 X.A) (gC : X.mg x = some (.ref C)) (hg : Gl X x) (he : PE X e ta) (hdb : (x == ("__debug__" : Str)) = false) :
    PE X (.Call (.Name x p) [] [⟨some f, e, kp⟩] pos) (tMk1 C f ta) := by
  refine ⟨fun pins s σ H Q I h => ?_⟩
  refine wpAny_Call_Name_kw (ld_glob I hg gC ?_ hdb)
  refine PySem.W.callWith_KW0 (h₀ := X.base) I.ok.mod.kin kC (by rfl) ?_ (by rfl)
  refine thn ((pk_cons (nm := some f) (kpos := kp) he pk_nil).run pos pins s σ H (fun zs H2 => match zs with | [v] => ∀ a d, H2 a = none → H2 d = none → d ≠ a → Q (.ref a) (upd (upd H2 d (.xd [(f, v)])) a (ExT (.ref C) (some d) a)) | _ => False) I h) fun ws s2 ⟨zs, H2, I2, rz, q2⟩ => ⟨I2.kIn, ?_⟩
  match zs, rz, q2 with
  | [v], .cons rv .nil, q2 => exact run_sup (args := ⟨[], [(f, _)]⟩) T hr I2 rv (.inr rfl) q2
end
end SX
/-! DS49: errors as values: made, asked for their class, their fields read. -/
namespace DS
open PySem PySem.Spec PyProof.Rows L2 SX
def errD (x : Str) : D → Option D := fun _ => some (.err x [] [])
def errD1 (x f : Str) : D → Option D := fun d => some (.err x [f] [d])
def fldD (T : List Str) (f : Str) : D → Option D := fun d => match d with
  | .err x ks vs => if T.contains x then (ks.zip vs).lookup f else none
  | _ => none
def isTyF (errs : ETab) (n : String) (d : D) : Option D := match d with
  | .err x _ _ => (errs.lookup x).map fun an => .bl (an.contains (Str.ofString n))
  | _ => none
def isOwF (errs : ETab) (C : Str) (d : D) : Option D := match d with
  | .err x _ _ => (errs.lookup x).map fun an => .bl (an.contains C)
  | _ => none
/-- an own class of errors without __init__ -/
structure OwnF (K : PySem.W.Frag) (mg : Str → Option Value) (x : Str) : Prop where
  gl : mg x = some (.ref (clK K x))
  ow : OwnC K (clK K x)
  ek : ErrK K x
/-- .. with one that lays one field -/
structure SupF (P : Program) (K : PySem.W.Frag) (mg : Str → Option Value) (x f : Str) : Prop where
  gl : mg x = some (.ref (clK K x))
  su : ∃ fI, SupC P K (clK K x) fI f
  kC : PySem.W.keepIn K (.ref (clK K x)) = true
  ek : ErrK K x
structure FldF (K : PySem.W.Frag) (T : List Str) (f : Str) : Prop where
  ok : ∀ x ∈ T, XfC K (clK K x) ∧ PySem.W.findIn K (.ref (clK K x)) f = some none
section
variable {K : PySem.W.Frag} {E : EX} {m : WE} {t : TE} {x f : Str}
theorem sem_err0 (ek : ErrK K x) (h : SemE K E m t) : SemE K E (eUn (errD x) m) (tMk0 (clK K x) t) := by
  intro B c0 c ad H0 s H rr R Q cf bd hm k
  refine h B c0 c ad H0 s H rr _ _ cf bd hm fun d v H1 hx s1 a1 => ?_
  obtain ⟨z, e, hR⟩ := hx
  cases e
  intro a na
  have cf1 := cf.step s1
  refine k _ _ _ hR (s1.trans (Step.new (n := 0) cf1.inv na)) ?_
  exact .err ek (upd_same) (cf1.free na) (.inl ⟨rfl, rfl⟩) .nil
theorem sem_err1 (ek : ErrK K x) (h : SemE K E m t) : SemE K E (eUn (errD1 x f) m) (tMk1 (clK K x) f t) := by
  intro B c0 c ad H0 s H rr R Q cf bd hm k
  refine h B c0 c ad H0 s H rr _ _ cf bd hm fun d v H1 hx s1 a1 => ?_
  obtain ⟨z, e, hR⟩ := hx
  cases e
  intro a dx na nd ne
  have cf1 := cf.step s1
  have s2 : Step 0 c H1 (upd H1 dx (.xd [(f, v)])) := Step.new cf1.inv nd
  have na2 : upd H1 dx (.xd [(f, v)]) a = none := by rw [upd_ne (Ne.symm ne)]; exact na
  have cf2 := cf1.step s2
  have s3 : Step 0 c (upd H1 dx (.xd [(f, v)])) (upd (upd H1 dx (.xd [(f, v)])) a (ExT (.ref (clK K x)) (some dx) a)) := Step.new cf2.inv na2
  refine k _ _ _ hR ((s1.trans s2).trans s3) ?_
  refine .err (us := [v]) ek upd_same (cf1.free na) (.inr ⟨(by simp), dx, rfl, ?_, cf1.free nd⟩) (.cons ((a1.evo (cf1.evo s2)).evo (cf2.evo s3)) .nil)
  rw [upd_ne ne, upd_same]
  rfl
theorem zip_at {c : Co} {H : Hp} : ∀ {ks : List Str} {us : List V} {vs : List D} {z : D}, AtL K c H us vs → (ks.zip vs).lookup f = some z → ∃ v, (ks.zip us).lookup f = some v ∧ At K c H v z
  | [], _, _, _, _, e => by simp at e
  | k :: ks, _, _, _, .nil, e => by simp at e
  | k :: ks, _, _, z, .cons (v := v) (d := d) a r, e => by
    rw [List.zip_cons_cons, List.lookup_cons] at e
    rw [List.zip_cons_cons, List.lookup_cons]
    cases q : (f == k) with
    | true => rw [q] at e; cases e; exact ⟨v, rfl, a⟩
    | false => rw [q] at e; exact zip_at r e
theorem sem_fld {T : List Str} (F : FldF K T f) (h : SemE K E m t) : SemE K E (eUn (fldD T f) m) (tFld K f t) := by
  intro B c0 c ad H0 s H rr R Q cf bd hm k
  refine h B c0 c ad H0 s H rr _ _ cf bd hm fun d v H1 hx s1 a1 => ?_
  obtain ⟨z, e, hR⟩ := hx
  have cf1 := cf.step s1
  cases d with
  | err x ks vs =>
    have e : (if T.contains x then (ks.zip vs).lookup f else none) = some z := e
    split at e
    · rename_i hT
      have hT : x ∈ T := by simpa using hT
      cases a1 with
      | err ek ha n q r =>
        obtain ⟨v, hl, av⟩ := zip_at r e
        rcases q with ⟨rfl, rfl⟩ | ⟨nk, d, rfl, hd, nd⟩
        · simp at hl
        · exact ⟨_, _, d, _, v, rfl, ha, hd, (F.ok x hT).1, (F.ok x hT).2, hl, k z v H1 hR s1 av⟩
    · cases e
  | _ => cases e
theorem at_err {c : Co} {H : Hp} {v : V} {x : Str} {ks : List Str} {vs : List D} (a : At K c H v (.err x ks vs)) : ∃ a0 dd, v = .ref a0 ∧ ErrK K x ∧ H a0 = some (ExT (.ref (clK K x)) dd a0) ∧ HasD H dd := by
  cases a with
  | err ek h n q r =>
    rcases q with ⟨_, rfl⟩ | ⟨_, d, rfl, hd, _⟩
    · exact ⟨_, _, rfl, ek, h, .inl rfl⟩
    · exact ⟨_, _, rfl, ek, h, .inr ⟨d, _, rfl, hd⟩⟩
theorem sem_isF {cv : Value} {u : V} {g : Str → Option Bool} {gd : D → Option D} (hc : ∀ w, RelV u w → w = cv) (hgd : ∀ d z, gd d = some z → ∃ x ks vs b, d = .err x ks vs ∧ g x = some b ∧ z = .bl b)
    (hk : ∀ x b, g x = some b → PySem.W.kitOne K (.ref (clK K x)) cv = some b) (h : SemE K E m t) : SemE K E (eUn gd m) (tCB (rIsO K) (tCons t (tCons (tC u) tNil))) := by
  intro B c0 c ad H0 s H rr R Q cf bd hm k
  refine h B c0 c ad H0 s H rr _ _ cf bd hm fun d v H1 hx s1 a1 => ?_
  obtain ⟨z, e, hR⟩ := hx
  obtain ⟨x, ks, vs, b, rfl, hb, rfl⟩ := hgd d z e
  obtain ⟨a0, dd, rfl, ek, ha, hd⟩ := at_err a1
  exact ⟨a0, clK K x, dd, u, cv, b, rfl, ha, hd, ek.ec, hc, hk x b hb, k _ _ _ hR s1 (.bl b)⟩
theorem isTyF_inv {errs : ETab} {n : String} (d z : D) (e : isTyF errs n d = some z) : ∃ x ks vs b, d = .err x ks vs ∧ ((errs.lookup x).map fun an => an.contains (Str.ofString n)) = some b ∧ z = .bl b := by
  cases d with
  | err x ks vs =>
    have e : ((errs.lookup x).map fun an => D.bl (an.contains (Str.ofString n))) = some z := e
    cases q : errs.lookup x with
    | none => rw [q] at e; cases e
    | some an => rw [q] at e; cases e; exact ⟨x, ks, vs, _, rfl, by rw [q]; rfl, rfl⟩
  | _ => cases e
theorem isOwF_inv {errs : ETab} {C : Str} (d z : D) (e : isOwF errs C d = some z) : ∃ x ks vs b, d = .err x ks vs ∧ ((errs.lookup x).map fun an => an.contains C) = some b ∧ z = .bl b := by
  cases d with
  | err x ks vs =>
    have e : ((errs.lookup x).map fun an => D.bl (an.contains C)) = some z := e
    cases q : errs.lookup x with
    | none => rw [q] at e; cases e
    | some an => rw [q] at e; cases e; exact ⟨x, ks, vs, _, rfl, by rw [q]; rfl, rfl⟩
  | _ => cases e
end
/-- a class, asked for -/
structure IsF (K : PySem.W.Frag) (errs : ETab) (C : Str) (cv : Value) : Prop where
  er : ∀ p ∈ errs, PySem.W.kitOne K (.ref (clK K p.1)) cv = some (p.2.contains C)
theorem IsF.hk {K : PySem.W.Frag} {errs : ETab} {C : Str} {cv : Value} (F : IsF K errs C cv) (x : Str) (b : Bool) (e : ((errs.lookup x).map fun an => an.contains C) = some b) : PySem.W.kitOne K (.ref (clK K x)) cv = some b := by
  cases q : errs.lookup x with
  | none => rw [q] at e; cases e
  | some an => rw [q] at e; cases e; exact F.er _ (lookup_mem q)
section
variable {g : G} {e : Expr} {m : WE} {x f : Str} {p p2 pos kp : Pos}
theorem de_err0 (F : OwnF g.K g.mg x) (h : DE g e m) (hg : g.sc.names.lookup x = some .globalImplicit := by rfl) (hd : (x == ("__debug__" : Str)) = false := by decide)
    (hs : ∀ env, starEach [e] env = (false, eval e env) :: starEach [] env := by intro _; rfl) : DE g (.Call (.Name x p) [e] [] pos) (eUn (errD x) m) := by
  obtain ⟨t, q⟩ := h
  exact ⟨fun E => tMk0 (clK g.K x) (t E), fun y ok => ⟨pe_own0 F.ow F.gl (ok.gl hg) (q y ok).1 (hs _) hd, sem_err0 F.ek (q y ok).2⟩⟩
theorem de_err1 (F : SupF g.P g.K g.mg x f) (h : DE g e m) (hg : g.sc.names.lookup x = some .globalImplicit := by rfl) (hd : (x == ("__debug__" : Str)) = false := by decide) (hk : 1 ≤ g.k := by exact Nat.le_of_ble_eq_true rfl)
    (hs : ∀ env, starEach [e] env = (false, eval e env) :: starEach [] env := by intro _; rfl) : DE g (.Call (.Name x p) [e] [] pos) (eUn (errD1 x f) m) := by
  obtain ⟨t, q⟩ := h
  obtain ⟨fI, T⟩ := F.su
  exact ⟨fun E => tMk1 (clK g.K x) f (t E), fun y ok => ⟨pe_sup (X := g.cx y) T F.kC (ok.room.mono hk) F.gl (ok.gl hg) (q y ok).1 (hs _) hd, sem_err1 F.ek (q y ok).2⟩⟩
theorem de_err1K (F : SupF g.P g.K g.mg x f) (h : DE g e m) (hg : g.sc.names.lookup x = some .globalImplicit := by rfl) (hd : (x == ("__debug__" : Str)) = false := by decide) (hk : 1 ≤ g.k := by exact Nat.le_of_ble_eq_true rfl) :
    DE g (.Call (.Name x p) [] [⟨some f, e, kp⟩] pos) (eUn (errD1 x f) m) := by
  obtain ⟨t, q⟩ := h
  obtain ⟨fI, T⟩ := F.su
  exact ⟨fun E => tMk1 (clK g.K x) f (t E), fun y ok => ⟨pe_supK (X := g.cx y) T F.kC (ok.room.mono hk) F.gl (ok.gl hg) (q y ok).1 hd, sem_err1 F.ek (q y ok).2⟩⟩
theorem de_fld {T : List Str} (F : FldF g.K T f) (h : DE g e m) (hb : ∀ env, attributeBase e f env (eval e env) = eval e env := by intro _; rfl) : DE g (.Attribute e f pos) (eUn (fldD T f) m) := by
  obtain ⟨t, q⟩ := h
  exact ⟨fun E => tFld g.K f (t E), fun y ok => ⟨pe_fld (q y ok).1 (hb _), sem_fld F (q y ok).2⟩⟩
theorem de_isTyF {n : String} (errs : ETab) (F : IsF g.K errs (Str.ofString n) (.type n)) (hm : g.mg "isinstance" = none) (hx : g.mg x = none) (h : DE g e m) (hv : bootBuiltins x = some (.type n) := by decide +kernel) (hg : g.sc.names.lookup ("isinstance" : Str) = some .globalImplicit := by rfl) (hgx : g.sc.names.lookup x = some .globalImplicit := by rfl)
    (hn : x ≠ "__name__" := by decide) (hd : (x == ("__debug__" : Str)) = false := by decide) (he : ∀ env, starEach [e, .Name x p2] env = (false, eval e env) :: starEach [.Name x p2] env := by intro _; rfl) (hs : ∀ env, starEach [.Name x p2] env = (false, eval (.Name x p2) env) :: starEach [] env := by intro _; rfl)
    (hpl : ∀ env, (backTo pos (starEach [.Name x p2] env)).any (·.1) = false := by intro _; rfl) : DE g (.Call (.Name "isinstance" p) [e, .Name x p2] [] pos) (eUn (isTyF errs n) m) := by
  obtain ⟨t, q⟩ := h
  exact ⟨fun E => tCB (rIsO g.K) (tCons (t E) (tCons (tC (.ty n)) tNil)), fun y ok => ⟨pe_callB call_isO (ok.gl hg) hm (by decide +kernel) (pa_cons (q y ok).1 (pa_cons (pe_bltn (X := g.cx y) (v := .ty n) (u := .type n) (ok.gl hgx) hx hv rfl hn hd) pa_nil (hs _)) (he _)) (by decide) (by decide) (he _) (hpl _), sem_isF (cv := .type n) (fun _ z => z) isTyF_inv (F.hk) (q y ok).2⟩⟩
theorem de_isOwF {C : Str} (errs : ETab) (gl : g.mg C = some (.ref (clK g.K C))) (F : IsF g.K errs C (.ref (clK g.K C))) (hm : g.mg "isinstance" = none) (h : DE g e m) (hg : g.sc.names.lookup ("isinstance" : Str) = some .globalImplicit := by rfl) (hgx : g.sc.names.lookup C = some .globalImplicit := by rfl)
    (hd : (C == ("__debug__" : Str)) = false := by decide) (he : ∀ env, starEach [e, .Name C p2] env = (false, eval e env) :: starEach [.Name C p2] env := by intro _; rfl) (hs : ∀ env, starEach [.Name C p2] env = (false, eval (.Name C p2) env) :: starEach [] env := by intro _; rfl)
    (hpl : ∀ env, (backTo pos (starEach [.Name C p2] env)).any (·.1) = false := by intro _; rfl) : DE g (.Call (.Name "isinstance" p) [e, .Name C p2] [] pos) (eUn (isOwF errs C) m) := by
  obtain ⟨t, q⟩ := h
  exact ⟨fun E => tCB (rIsO g.K) (tCons (t E) (tCons (tC (.ref (clK g.K C))) tNil)), fun y ok => ⟨pe_callB call_isO (ok.gl hg) hm (by decide +kernel) (pa_cons (q y ok).1 (pa_cons (pe_glob (X := g.cx y) (v := .ref (clK g.K C)) (u := .ref (clK g.K C)) (ok.gl hgx) gl rfl hd) pa_nil (hs _)) (he _)) (by decide) (by decide) (he _) (hpl _), sem_isF (cv := .ref (clK g.K C)) (fun _ z => z) isOwF_inv (F.hk) (q y ok).2⟩⟩
end
end DS
/-! DS50: isinstance(ValueError(e), C). -/
namespace DS
open PySem PySem.Spec PyProof.Rows L2 SX
/-- a new error of a built-in class -/
def tMkB (T : String) (ta : TE) : TE := fun σ H Q => ta σ H fun _ H1 => ∀ a, H1 a = none → Q (.ref a) (upd H1 a (ExT (.type T) none a))
def rIsB (K : PySem.W.Frag) (T : String) : List V → Hp → VK → Prop := fun xs H Q => ∃ (a : Addr) (c : V) (cv : Value) (b : Bool), xs = [.ref a, c] ∧ H a = some (ExT (.type T) none a) ∧ (∀ u, RelV c u → u = cv) ∧ PySem.W.kitOne K (.type T) cv = some b ∧ Q (.bl b) H
section
variable {X : Cx} {T N I : String} {x : Str} {p pos : Pos} {e : Expr} {ta : TE}
theorem pe_exB (F : ExcB T N I) (hg : Gl X x) (hm : X.mg x = none) (hv : bootBuiltins x = some (.type T)) (he : PE X e ta) (hn : x ≠ "__name__") (hdb : (x == ("__debug__" : Str)) = false)
    (hs : starEach [e] X.env = (false, eval e X.env) :: starEach [] X.env) : PE X (.Call (.Name x p) [e] [] pos) (tMkB T ta) := by
  refine ⟨fun pins s σ H Q J h => ?_⟩
  refine wpAny_Call_Name_kw (ld_blt J hg hm hv ?_ hn hdb)
  refine PyProof.Rows.callWith_type1 (thn ((pa_cons he pa_nil hs).run pos pins s σ H (fun zs H1 => match zs with | [v] => ∀ a, H1 a = none → Q (.ref a) (upd H1 a (ExT (.type T) none a)) | _ => False) J h) fun us s1 hh => ?_) hs (by rfl)
  obtain ⟨zs, H1, I1, r1, q1⟩ := hh
  match zs, us, r1, q1 with
  | [v], [u], .cons rv .nil, q1 =>
    obtain ⟨hp1, g1, d1, tk1, os1⟩ := s1
    refine wpAny_call_exc F.call (fun h' a mk => ?_) (by show 1 ≤ sizeLine; rw [sizeLine_eq]; omega)
    have hm := PySem.Heap.MadeExc.of mk
    obtain ⟨t, ht, _, _⟩ := hm.there
    have na : H1 a = none := I1.hok.gone hm.new
    exact ⟨.ref a, _, I1.laidN (t' := tk1) hm.keeps hm.new na (exT_ok ht ⟨rfl, rfl⟩ rfl), rfl, q1 a na⟩
theorem kitx_VE {K : PySem.W.Frag} {a : Addr} : PySem.W.KitX K (.ref a) (.type "ValueError") (PySem.W.KitAt a "ValueError") := PySem.W.kitx_bexc PySem.F.excAttr_ValueError PySem.F.lkClass_ValueError PySem.F.soClass_ValueError (by decide)
theorem call_isVE {X : Cx} : CallR X (.builtin "isinstance") (rIsB X.K "ValueError") := by
  intro pins s σ H xs us Q I r h
  obtain ⟨a, c, cv, b, rfl, ha, hcv, e, q⟩ := h
  cases r with
  | cons rx rr =>
    cases rr with
    | cons rt rr =>
      cases rr
      cases rx
      have ec := hcv _ rt
      subst ec
      obtain ⟨⟨oe, vs, hget, hz, hv⟩, _⟩ := I.hok a _ ha
      exact PySem.W.kia_one kitx_VE I.kIn ⟨oe, hget, hz.1⟩ e (fun z => nomatch z) fun tk => ⟨.bl b, H, I.kept (t' := tk) fun _ _ z => z, rfl, q⟩
end
def cstD (b : Bool) : D → Option D := fun _ => some (.bl b)
theorem sem_isVE {K : PySem.W.Frag} {E : EX} {m : WE} {t : TE} {cv : Value} {u : V} {b : Bool} (hc : ∀ w, RelV u w → w = cv) (hk : PySem.W.kitOne K (.type "ValueError") cv = some b) (h : SemE K E m t) : SemE K E (eUn (cstD b) m) (tCB (rIsB K "ValueError") (tCons (tMkB "ValueError" t) (tCons (tC u) tNil))) := by
  intro B c0 c ad H0 s H rr R Q cf bd hm k
  refine h B c0 c ad H0 s H rr _ _ cf bd hm fun d v H1 hx s1 a1 => ?_
  obtain ⟨z, e, hR⟩ := hx
  cases e
  intro a na
  have cf1 := cf.step s1
  exact ⟨a, u, cv, b, rfl, upd_same, hc, hk, k _ _ _ hR (s1.trans (Step.new (n := 0) cf1.inv na)) (.bl b)⟩
section
variable {g : G} {e : Expr} {m : WE} {C : Str} {p p1 p2 p3 pos : Pos}
theorem de_isVE (gl : g.mg C = some (.ref (clK g.K C))) {b : Bool} (hk : PySem.W.kitOne g.K (.type "ValueError") (.ref (clK g.K C)) = some b) (hm : g.mg "isinstance" = none) (hx : g.mg "ValueError" = none) (h : DE g e m) (hg : g.sc.names.lookup ("isinstance" : Str) = some .globalImplicit := by rfl) (hgx : g.sc.names.lookup C = some .globalImplicit := by rfl) (hgv : g.sc.names.lookup ("ValueError" : Str) = some .globalImplicit := by rfl)
    (hd : (C == ("__debug__" : Str)) = false := by decide) (h0 : ∀ env, starEach [e] env = (false, eval e env) :: starEach [] env := by intro _; rfl)
    (he : ∀ env, starEach [.Call (.Name "ValueError" p1) [e] [] p2, .Name C p3] env = (false, eval (.Call (.Name "ValueError" p1) [e] [] p2) env) :: starEach [.Name C p3] env := by intro _; rfl) (hs : ∀ env, starEach [.Name C p3] env = (false, eval (.Name C p3) env) :: starEach [] env := by intro _; rfl)
    (hpl : ∀ env, (backTo pos (starEach [.Name C p3] env)).any (·.1) = false := by intro _; rfl) : DE g (.Call (.Name "isinstance" p) [.Call (.Name "ValueError" p1) [e] [] p2, .Name C p3] [] pos) (eUn (cstD b) m) := by
  obtain ⟨t, q⟩ := h
  exact ⟨fun E => tCB (rIsB g.K "ValueError") (tCons (tMkB "ValueError" (t E)) (tCons (tC (.ref (clK g.K C))) tNil)), fun y ok => ⟨pe_callB call_isVE (ok.gl hg) hm (by decide +kernel) (pa_cons (pe_exB (X := g.cx y) exb_ValueError (ok.gl hgv) hx boot_ValueError (q y ok).1 (by decide) (by decide) (h0 _)) (pa_cons (pe_glob (X := g.cx y) (v := .ref (clK g.K C)) (u := .ref (clK g.K C)) (ok.gl hgx) gl rfl hd) pa_nil (hs _)) (he _)) (by decide) (by decide) (he _) (hpl _), sem_isVE (cv := .ref (clK g.K C)) (fun _ z => z) hk (q y ok).2⟩⟩
end
end DS
/-! DS51: a head for a law with many classes: one run, facts by a Bool. -/
namespace DS
open PySem PySem.Spec PyProof.Rows L2 SX
theorem ba {a b : Bool} (h : (a && b) = true) : a = true ∧ b = true := Bool.and_eq_true_iff.mp h
theorem errK_of {K : PySem.W.Frag} {x : Str} (c : comB K = true) (h : errKB K x = true) : ErrK K x := by
  obtain ⟨c1, c2⟩ := ba c
  obtain ⟨h1, h⟩ := ba h
  obtain ⟨h2, h⟩ := ba h
  obtain ⟨h3, h⟩ := ba h
  obtain ⟨h4, h⟩ := ba h
  obtain ⟨h5, h⟩ := ba h
  obtain ⟨h6, h⟩ := ba h
  exact ⟨⟨of_decide_eq_true h1, of_decide_eq_true h2, of_decide_eq_true h3, h4, of_decide_eq_true h5, of_decide_eq_true c1, of_decide_eq_true c2, of_decide_eq_true h6⟩, fun n hn => of_decide_eq_true (List.all_eq_true.mp h n hn)⟩
theorem isF_of {K : PySem.W.Frag} {errs : ETab} {C : Str} {cv : Value} (h : isinB K errs C cv = true) : IsF K errs C cv := ⟨fun p hp => of_decide_eq_true (List.all_eq_true.mp h p hp)⟩
theorem mem_ref {K : PySem.W.Frag} {C : Str} {names : List Str} (hC : C ∈ names) (inj : ∀ x ∈ names, ∀ y ∈ names, clK K x = clK K y → x = y) : ∀ l : List Str, (∀ n ∈ l, n ∈ names) → (l.map (fun n => Value.ref (clK K n))).contains (.ref (clK K C)) = l.contains C
  | [], _ => rfl
  | n :: l, h => by
    rw [List.map_cons, List.contains_cons, List.contains_cons, mem_ref hC inj l fun x hx => h x (List.mem_cons_of_mem _ hx)]
    have e : (Value.ref (clK K C) == Value.ref (clK K n)) = (C == n) := by
      rw [Bool.eq_iff_iff, beq_iff_eq, beq_iff_eq]
      exact ⟨fun z => inj C hC n (h n List.mem_cons_self) (Value.ref.inj z), fun z => by rw [z]⟩
    rw [e]
theorem isF_by {K : PySem.W.Frag} {names : List Str} {errs : ETab} {C : Str} (t : tabOk names errs = true) (hm : errs.all (mroB K) = true) (hd : distinctB (names.map (clK K)) = true) (hC : C ∈ names) (hc : clsB K C = true) : IsF K errs C (.ref (clK K C)) := by
  have inj : ∀ x ∈ names, ∀ y ∈ names, clK K x = clK K y → x = y := distinct_eq hd
  obtain ⟨t1, t2⟩ := Bool.and_eq_true_iff.mp t
  refine ⟨fun p hp => ?_⟩
  obtain ⟨q1, q⟩ := Bool.and_eq_true_iff.mp (List.all_eq_true.mp t1 p hp)
  obtain ⟨q2, q3⟩ := Bool.and_eq_true_iff.mp q
  have q1 := of_decide_eq_true q1
  have q2 : ∀ n ∈ ownPart p.2, n ∈ names := fun n hn => by simpa using List.all_eq_true.mp q2 n hn
  have q3 : p.1 ∈ ownPart p.2 := by simpa using q3
  have hv : veN.contains C = false := by simpa using List.all_eq_true.mp t2 C hC
  have e2 : p.2.contains C = (ownPart p.2).contains C := by
    conv => lhs; rw [q1]
    rw [Bool.eq_iff_iff]
    simp only [List.contains_iff_mem, List.mem_append]
    exact ⟨fun h => h.elim id fun h => absurd (List.contains_iff_mem.mpr h) (by rw [hv]; decide), .inl⟩
  have hmr := of_decide_eq_true (List.all_eq_true.mp hm p hp)
  cases hcl : PySem.W.clsIn K (clK K p.1) with
  | none => rw [hcl] at hmr; cases hmr
  | some cd =>
    rw [hcl] at hmr
    have hmr : cd.mro = (ownPart p.2).map (fun n => Value.ref (clK K n)) ++ veV := Option.some.inj hmr
    unfold PySem.W.kitOne
    by_cases ha : (Value.ref (clK K p.1) == Value.ref (clK K C)) = true
    · rw [if_pos ha, e2]
      have e3 : p.1 = C := inj _ (q2 _ q3) _ hC (Value.ref.inj (beq_iff_eq.mp ha))
      rw [← e3]
      exact congrArg some (List.contains_iff_mem.mpr q3).symm
    · rw [if_neg ha]
      show (if ((PySem.W.clsIn K (clK K C)).isSome && PySem.W.typeIn K (.ref (clK K C)) == some (.type "type")) = true then PySem.W.subIn K (.ref (clK K p.1)) (.ref (clK K C)) else none) = _
      rw [if_pos (show ((PySem.W.clsIn K (clK K C)).isSome && PySem.W.typeIn K (.ref (clK K C)) == some (.type "type")) = true from hc)]
      show PySem.W.mroIn K (clK K p.1) (.ref (clK K C)) = _
      unfold PySem.W.mroIn
      rw [hcl, Option.bind_some, hmr]
      have ne : ((ownPart p.2).map (fun n => Value.ref (clK K n)) ++ veV).isEmpty = false := by
        cases (ownPart p.2).map (fun n => Value.ref (clK K n)) <;> rfl
      rw [ne, if_neg (by decide), e2, ← mem_ref hC inj _ q2]
      congr 1
      rw [Bool.eq_iff_iff]
      simp only [List.contains_iff_mem, List.mem_append]
      exact ⟨fun h => h.elim id fun h => by simp [veV] at h, .inl⟩
section
variable {K : PySem.W.Frag} {h : Heap} {mg : Str → Option Value} {x : Str}
theorem glo_of (X : K.In h) (G : h.Ns mainGlobals mg) (a : gloB K x = true) : mg x = some (.ref (clK K x)) := PySem.W.mg_of X G (of_decide_eq_true a)
theorem free_of (X : K.In h) (G : h.Ns mainGlobals mg) (a : freeB K x = true) : mg x = none := PySem.W.mg_none_of X G (of_decide_eq_true a)
theorem ownF_of (X : K.In h) (G : h.Ns mainGlobals mg) (c : comB K = true) (a : ownB K x = true) : OwnF K mg x := by
  obtain ⟨a1, a⟩ := ba a
  obtain ⟨a2, a⟩ := ba a
  obtain ⟨a3, a4⟩ := ba a
  exact ⟨glo_of X G a1, ⟨a2, a3⟩, errK_of c a4⟩
end
theorem fldF_of {K : PySem.W.Frag} {T : List Str} {f : Str} (h : fldB K T f = true) : FldF K T f := ⟨fun x hx => by
  obtain ⟨h1, h2⟩ := ba (List.all_eq_true.mp h x hx)
  exact ⟨xfB_ok h1, of_decide_eq_true h2⟩⟩
theorem clsOk_of {K : PySem.W.Frag} {C : Addr} (h : clsOkB K C = true) : ∃ nm q N bs bm sn sub ab col dd k0 k1 k2 k3 k5, K.lookup C = some (excClassObj nm q C N bs bm true sn sub ab col dd k0 k1 k2 k3 k5 "ValueError.__new__") ∧ PySem.HandSPX.refsVE bm = true := by
  unfold clsOkB at h
  split at h
  · rename_i dd cd sl ho
    split at h
    · rename_i C' bm k0 k1 k2 k3 n k5 hm hs
      obtain ⟨a1, h⟩ := ba h
      obtain ⟨a2, h⟩ := ba h
      obtain ⟨a3, h⟩ := ba h
      obtain ⟨a4, a5⟩ := ba h
      have a1 := of_decide_eq_true a1
      have a2 := of_decide_eq_true a2
      obtain ⟨nm, bs, mro, ns, qn, hd, sn, sub, ab, col, del⟩ := cd
      dsimp only at hm a3 a4
      have a3 : del = false := by cases del <;> first | rfl | cases a3
      subst hm a1 a2 a3 a4
      have hsl : sl = #[k0, k1, k2, k3, some (.builtin "ValueError.__new__"), k5] := by
        obtain ⟨l⟩ := sl
        simp only at hs
        rw [hs]
      subst hsl
      exact ⟨nm, qn, ns, bs, bm, sn, sub, ab, col, dd, k0, k1, k2, k3, k5, ho, a5⟩
    · cases h
  · cases h
/-- what the text of such an __init__ must be -/
structure SupT (d : SupD) : Prop where
  bd : ∃ txt k p0 p1 p2 p3 p4 p5 p6 p7 p8 p9, defBody d.st = [.Expr (.Call (.Attribute (.Call (.Name "super" p0) [] [] p1) "__init__" p2) [.Constant (.str txt) k p3] [] p4) p5, .Assign [.Attribute (.Name "self" p6) d.f p7] (.Name d.f p8) p9] ∧ (p2.endLine == p4.line) = true
  ar : ∃ ar, ((defArgs d.st).posonlyargs ++ (defArgs d.st).args).head? = some ar ∧ ar.arg = "self"
  s1 : (defScope d.st).kind = .function ∧ (defScope d.st).isCoroutine = false ∧ (defScope d.st).isGenerator = false
  s2 : ∀ x ∈ (defScope d.st).names, x.2 ≠ .cell
  s3 : (defScope d.st).names.lookup ("super" : Str) = some .globalImplicit ∧ (defScope d.st).names.lookup ("__class__" : Str) = some .free ∧ (defScope d.st).names.lookup ("self" : Str) = some .local ∧ (defScope d.st).names.lookup d.f = some .local
  b1 : ∀ (n q : Str) (body : List Stmt) (kV doc pm ct cdv : Value) (an : Option Addr) (cc : Addr) (a b : Value), bindArgs (PySem.W.ksFn n q (defArgs d.st) body (defScope d.st) .none kV doc pm an cdv ct cc) ⟨[a, b], []⟩ = pure [(("self" : Str), a), (d.f, b)]
  b2 : ∀ (n q : Str) (body : List Stmt) (kV doc pm ct cdv : Value) (an : Option Addr) (cc : Addr) (a b : Value), bindArgs (PySem.W.ksFn n q (defArgs d.st) body (defScope d.st) .none kV doc pm an cdv ct cc) ⟨[a], [(d.f, b)]⟩ = pure [(("self" : Str), a), (d.f, b)]
  ne : d.f ≠ "self"
  nd : (d.f == ("__debug__" : Str)) = false
theorem supF_of {P : Program} {K : PySem.W.Frag} {h : Heap} {mg : Str → Option Value} {d : SupD} (X : K.In h) (G : h.Ns mainGlobals mg) (c : comB K = true) (c2 : com2B P K = true) (a : supB P K d = true) (e : supW K d.x = d.val) (t : SupT d) : SupF P K mg d.x d.f := by
  obtain ⟨z1, c2⟩ := ba c2
  obtain ⟨z2, z3⟩ := ba c2
  obtain ⟨a1, a⟩ := ba a
  obtain ⟨a2, a⟩ := ba a
  obtain ⟨a3, a⟩ := ba a
  obtain ⟨a4, a⟩ := ba a
  obtain ⟨a5, a⟩ := ba a
  obtain ⟨a6, a⟩ := ba a
  obtain ⟨a7, a⟩ := ba a
  obtain ⟨a8, a⟩ := ba a
  obtain ⟨a9, a⟩ := ba a
  obtain ⟨a10, a⟩ := ba a
  obtain ⟨a11, a12⟩ := ba a
  refine ⟨glo_of X G a1, ⟨initA K d.x, clsOk_of a2, of_decide_eq_true a3, of_decide_eq_true a4, ?_, of_decide_eq_true a6, of_decide_eq_true a7, of_decide_eq_true a8, of_decide_eq_true z1, of_decide_eq_true z2, of_decide_eq_true a9, of_decide_eq_true a10, ?_, t.ne, t.nd⟩, a11, errK_of c a12⟩
  · unfold supW SupD.val at e
    cases q : K.lookup (initA K d.x) with
    | none => rw [q] at a5; cases a5
    | some o =>
      obtain ⟨oc, od, dt, osl⟩ := o
      rw [q] at a5 e
      cases dt with
      | func fd =>
        obtain ⟨n1, n2, n3, n4, n5, n6, n7, n8, n9, n10, n11, n12, n13, n14, n15⟩ := fd
        have e2 : (some (n1, n2, n3, n4, n5, n6, n7.map (·.1), n15) : SpW) = d.val := e
        unfold SupD.val at e2
        simp only [Option.some.injEq, Prod.mk.injEq] at e2
        obtain ⟨h1, h2, h3, h4, h5, h6, h7, h8⟩ := e2
        subst h1 h2 h3 h4 h5 h6 h8
        have c3 : (PySem.W.codeIn K n13 (d.x ++ ".__init__") && (codeFileB P K n13 && (cellB K n7 (clK K d.x) && noDef n8))) = true := a5
        obtain ⟨k1, k⟩ := ba c3
        obtain ⟨k2, k⟩ := ba k
        obtain ⟨k3, k4⟩ := ba k
        have e8 : n8 = .none := by cases n8 <;> first | rfl | cases k4
        subst e8
        match n7, h7, k3 with
        | [(nc, cc)], h7, k3 =>
          have hnc : nc = "__class__" := by simpa using h7
          subst hnc
          unfold codeFileB at k2
          cases n13 with
          | ref cda =>
            dsimp only at k2
            cases qc : K.lookup cda with
            | none => rw [qc] at k2; cases k2
            | some oc2 =>
              obtain ⟨o1, o2, o3, o4⟩ := oc2
              rw [qc] at k2
              cases o3 with
              | fields vs =>
                dsimp only at k2
                split at k2
                · rename_i file tf hvs
                  unfold cellB at k3
                  dsimp only at k3
                  split at k3
                  · rename_i o5 o6 DD o8 hcc
                    have hD := of_decide_eq_true k3
                    subst hD
                    obtain ⟨txt, k, p0, p1, p2, p3, p4, p5, p6, p7, p8, p9, hb, hpos⟩ := t.bd
                    obtain ⟨ar, har, hself⟩ := t.ar
                    have hb1 := t.b1 "__init__" (d.x ++ ".__init__") (defBody d.st) n9 n10 n11 n14 (.ref cda) n12 cc
                    have hb2 := t.b2 "__init__" (d.x ++ ".__init__") (defBody d.st) n9 n10 n11 n14 (.ref cda) n12 cc
                    rw [hb] at hb1 hb2
                    exact ⟨"__init__", d.x ++ ".__init__", defArgs d.st, defScope d.st, .none, n9, n10, n11, n14, oc, n12, od, osl, cc, cda, txt, k, p0, p1, p2, p3, p4, p5, p6, p7, p8, p9, o1, o5, o2, o6, o4, o8, vs, file, tf, ar, (by rw [hb]), hpos, k1, har, hself, qc, hvs, k2, hcc,
                      t.s1.1, t.s1.2.1, t.s1.2.2, t.s2, t.s3.1, t.s3.2.1, t.s3.2.2.1, t.s3.2.2.2, hb1, hb2⟩
                  · cases k3
                · cases k2
              | _ => cases k2
          | _ => cases k2
      | _ => cases a5
  · cases q : (P.main.scope.names.lookup ("super" : Str)).isSome with
    | false => rfl
    | true => rw [q] at z3; cases z3
theorem obsCG_eq {n : Nat} {chk : PySem.W.Frag → Bool} {fn : List He.DefD} {sp : List SupD} {g : Addr → Option Obj} {s : Shared} (h : ∀ a, g a = s.heap.get? a) : obsCG n chk fn sp g = (hookC n chk fn sp).obs s := by
  have e : g = s.heap.get? := funext h
  rw [e] <;> rfl
section
variable {chk : PySem.W.Frag → Bool} {fn : List He.DefD} {sp : List SupD} {K : PySem.W.Frag}
theorem SaysC.tru (c : SaysC chk fn sp K) : chk K = true := congrArg (fun z : AlC => z.2.1) c
theorem SaysC.defs (c : SaysC chk fn sp K) : He.SaysD [] fn K := congrArg (fun z : AlC => z.1) c
theorem SaysC.sup (c : SaysC chk fn sp K) : ∀ d ∈ sp, supW K d.x = d.val := fun d hd => by
  have e : sp.map (fun d => supW K d.x) = sp.map SupD.val := congrArg (fun z : AlC => z.2.2) c
  obtain ⟨i, hi, rfl⟩ := List.getElem_of_mem hd
  have e2 : (sp.map fun d => supW K d.x)[i]? = (sp.map SupD.val)[i]? := by rw [e]
  rw [List.getElem?_map, List.getElem?_map, List.getElem?_eq_getElem hi] at e2
  exact Option.some.inj e2
theorem have_of {h : Heap} {mg : Str → Option Value} {x : Str} {st : Stmt} (X : K.In h) (G : h.Ns mainGlobals mg) (c : SaysC chk fn sp K) (i : Nat) (hi : fn[i]? = some (defD x st)) (a : gloB K x = true) : HaveC K mg x st := by
  obtain ⟨fd, F⟩ := c.defs.def_ i hi
  obtain ⟨oc, od, dV, kV, doc, pm, an, cdv, ct, osl, rfl, lk, hcd, hD, hK⟩ := F.ex
  have hd : dV = .none := by
    rcases hD with ⟨_, e⟩ | ⟨e, _⟩
    · exact e
    · exact absurd rfl e
  subst hd
  have hf : He.fAd K (x, none) = clK K x := rfl
  have a' := of_decide_eq_true a
  exact ⟨⟨_, _, a', PySem.W.mg_of X G a', ⟨oc, od, kV, doc, pm, an, cdv, ct, osl, rfl, lk, hcd⟩, F.kp⟩⟩
end
theorem HaveC.have {K : PySem.W.Frag} {mg : Str → Option Value} {x : Str} {st : Stmt} (h : HaveC K mg x st) : Have K mg x st := by
  obtain ⟨f, fd, _, h1, h2⟩ := h.ex
  exact ⟨⟨f, fd, h1, h2⟩⟩
open PySem.W in
/-- walk_ofG where the written part is told by a hook -/
theorem walk_ofGH {l : PySem.W.OpenLaw} {k : Nat} {q : Program} {loose : List Str} {XP : (Str → Option Value) → Heap → Prop} {YP : World → Heap → Prop} {d : DefRec} {Ok : PySem.W.Frag → Prop}
    (hn : l.most = some 63) (hdf : d.params.defaults = []) (hr : Room k callerA) (hY : ∀ (w : World) (h : Heap), YP w h → ∃ K : PySem.W.Frag, K.In h ∧ Ok K)
    (F : ∀ (w : World) (mg : Str → Option Value) (fa : Addr) (h : Heap) (K : PySem.W.Frag), K.In h → h.Ns mainGlobals mg → mg d.name = some (.ref fa) → Ok K →
      ∃ (fd : FuncData), (∀ (s : Shared) (u : Value), BindsTo s fd ⟨[u], []⟩ [("script", u)]) ∧
        ∀ base : Heap, K.In base → base.Ns mainGlobals mg → FnG l.prog w K mg base k fa fd ["script"] (spLaw [] K)) :
    PySem.W.WalkO q loose XP YP l.row.toRowW d [] (fun f vs => PySem.call f vs) := by
  refine Att.attach_callB hn hdf ?_
  intro w s₀ s mg mb fa o pm cd doc a vs ns G Y ho hd hcd hmg hobj hints hlen hbits hg
  obtain ⟨K, inK, okK⟩ := hY w _ Y
  obtain ⟨fd, hb, hF⟩ := F w mg fa _ K inK G.T.g hmg okK
  refine law_callG (cs := []) inK G.T.g G.T.b G.T.builtins G.T.nolimit hg (fun p hp => by cases hp) (fun p hp => by cases hp) (fun p hp => by cases hp) G.T.bmain hobj hints (Nat.le_trans hlen (by rw [sizeLine_eq]; decide)) hr (fun base h1 h2 h3 => hF base h1 h2) hb fun H hH hS => ?_
  exact ⟨a, ns, rfl, hS, hlen, (fun p hp => by cases hp), fun _ => rfl⟩
end DS
/-! DS52: [..] * n. -/
namespace DS
open PySem PySem.Spec PyProof.Rows L2
def eRepL (f : WF) (b : WE) : WE := ⟨fun r R => f r fun x => match x with | .ol ds => b r fun y => ∃ k : Nat, y = .int k ∧ k ≤ 1000 ∧ ds.length ≤ 1000 ∧ R (.lst (rep k ds)) | _ => False, f.n + b.n⟩
theorem de_repL {g : G} {a b : Expr} {f : WF} {mb : WE} {pos : Pos} (ha : DF g a f) (hb : DE g b mb) : DE g (.BinOp a .Mult b pos) (eRepL f mb) := by
  obtain ⟨ta, pa⟩ := ha
  obtain ⟨tb, pb⟩ := hb
  refine ⟨fun E => tOp rRep (ta E) (tb E), fun y ok => ⟨pe_op op_rep (pa y ok).1 (pb y ok).1, ?_⟩⟩
  intro B c0 c ad H0 s H r R Q cf bd hx k
  refine (pa y ok).2 B c0 c ad H0 s H r _ _ cf (bd1 bd) hx fun x p H1 hx o hp s1 ob => ?_
  cases x with
  | ol ds =>
    have cf1 := cf.step s1
    refine (pb y ok).2 B c0 c ad H0 s H1 r _ _ cf1 (bd2 bd s1.3) hx fun x2 v2 H2 hx2 s2 a2 => ?_
    obtain ⟨n, rfl, hn, hl, hR⟩ := hx2
    obtain ⟨xs, e, l, a⟩ := ob
    have np : ∀ q, (∃ o, H q = some o ∧ nT o) → p ≠ q := fun q ⟨o, e, t⟩ z => hp o (by rw [z]; exact e) t
    have e2 : H2 p = some (.lst xs) := s2.2 p _ e (np _ (cf.dom _ cf.osd)) (np _ (cf.dom _ cf.osg)) nTL
    have a := (a.evo evo_less).evo (cf1.evo s2)
    cases a2
    have ll := a.length
    have b1 : xs.length * n ≤ 1000 * 1000 := Nat.mul_le_mul (by omega) hn
    refine ⟨p, (n : Int), xs, rfl, rfl, e2, by omega, by omega, ?_, fun q hq => ?_⟩
    · rw [Int.toNat_natCast, sizeLine_eq]; omega
    · rw [Int.toNat_natCast]
      have s3 := s1.trans s2
      refine k _ _ _ hR (s3.trans (Step.new (n := 0) s3.1 hq)) ?_
      refine (cf.step s3).ho.lst hq ?_ (a.rep n)
      have e5 : (DS.rep n xs).length = n * xs.length := rep_len n xs
      show (DS.rep n xs).length ≤ _
      rw [e5, sizeLine_eq, Nat.mul_comm]; omega
  | _ => exact hx.elim
@[simp] theorem f_eRepL {f : WF} {b : WE} {r : Env} {R : D → Prop} : (eRepL f b).f r R = f.f r fun x => match x with | .ol ds => b.f r fun y => ∃ k : Nat, y = .int k ∧ k ≤ 1000 ∧ ds.length ≤ 1000 ∧ R (.lst (rep k ds)) | _ => False := Eq.trans rfl rfl
@[simp] theorem f_fLstX {a : WA} {r : Env} {R : Sl → Prop} : (fLst a).f r R = a.f r fun ds => ds.length ≤ sizeLine ∧ R (.ol ds) := Eq.trans rfl rfl
end DS
namespace DS
open PySem PySem.Spec PyProof.Rows L2
def csT : List Str := [("FactsError" : Str), ("BadBody" : Str), ("BadBook" : Str), ("BadBound" : Str), ("BadCase" : Str), ("BadChange" : Str), ("BadChanges" : Str), ("BadClaims" : Str), ("BadCode" : Str), ("BadCount" : Str), ("BadDeal" : Str), ("BadFact" : Str), ("BadFacts" : Str), ("BadFloor" : Str), ("BadGoing" : Str), ("BadHouse" : Str), ("BadKept" : Str), ("BadLayer" : Str), ("BadLayers" : Str), ("BadLots" : Str), ("BadMeasure" : Str), ("BadModules" : Str), ("BadMoment" : Str), ("BadName" : Str), ("BadPairs" : Str), ("BadPlan" : Str), ("BadQuery" : Str), ("BadRow" : Str), ("BadRule" : Str), ("BadSearches" : Str), ("BadSigns" : Str), ("BadSpread" : Str), ("BadState" : Str), ("BadStep" : Str), ("BadSum" : Str), ("BadText" : Str), ("BadThing" : Str), ("BadWish" : Str), ("Broken" : Str), ("CannotChange" : Str), ("CannotDeal" : Str), ("Heavy" : Str), ("LargeMeaning" : Str), ("NoAskingText" : Str), ("NoPapers" : Str), ("NoStep" : Str), ("NotClosed" : Str), ("NotOut" : Str), ("NotSayable" : Str), ("NothingDone" : Str), ("NothingUndone" : Str), ("TooLarge" : Str), ("TooManyWays" : Str), ("Undecided" : Str), ("Wide" : Str)]
def lamNames : List Str := []
structure Tx (P : Program) (K : PySem.W.Frag) (mg : Str → Option Value) (base : Heap) (TB : List (Addr × Str)) : Prop where
  b_len : mg "len" = none
  b_isinstance : mg "isinstance" = none
  b_range : mg "range" = none
  b_min : mg "min" = none
  b_enumerate : mg "enumerate" = none
  b_ValueError : mg "ValueError" = none
  b_repr : mg "repr" = none
  b_abs : mg "abs" = none
  b_int : mg "int" = none
  x_BadCase : mg "BadCase" = some (.ref (clK K "BadCase"))
  i_BadCase : IsF K errT "BadCase" (.ref (clK K "BadCase"))
  x_BadBound : mg "BadBound" = some (.ref (clK K "BadBound"))
  i_BadBound : IsF K errT "BadBound" (.ref (clK K "BadBound"))
  x_BadBook : mg "BadBook" = some (.ref (clK K "BadBook"))
  i_BadBook : IsF K errT "BadBook" (.ref (clK K "BadBook"))
  x_BadBody : mg "BadBody" = some (.ref (clK K "BadBody"))
  i_BadBody : IsF K errT "BadBody" (.ref (clK K "BadBody"))
  x_BadCode : mg "BadCode" = some (.ref (clK K "BadCode"))
  i_BadCode : IsF K errT "BadCode" (.ref (clK K "BadCode"))
  x_BadClaims : mg "BadClaims" = some (.ref (clK K "BadClaims"))
  i_BadClaims : IsF K errT "BadClaims" (.ref (clK K "BadClaims"))
  x_BadChanges : mg "BadChanges" = some (.ref (clK K "BadChanges"))
  i_BadChanges : IsF K errT "BadChanges" (.ref (clK K "BadChanges"))
  x_BadChange : mg "BadChange" = some (.ref (clK K "BadChange"))
  i_BadChange : IsF K errT "BadChange" (.ref (clK K "BadChange"))
  x_BadFacts : mg "BadFacts" = some (.ref (clK K "BadFacts"))
  i_BadFacts : IsF K errT "BadFacts" (.ref (clK K "BadFacts"))
  x_BadFact : mg "BadFact" = some (.ref (clK K "BadFact"))
  i_BadFact : IsF K errT "BadFact" (.ref (clK K "BadFact"))
  x_BadDeal : mg "BadDeal" = some (.ref (clK K "BadDeal"))
  i_BadDeal : IsF K errT "BadDeal" (.ref (clK K "BadDeal"))
  x_BadCount : mg "BadCount" = some (.ref (clK K "BadCount"))
  i_BadCount : IsF K errT "BadCount" (.ref (clK K "BadCount"))
  x_BadKept : mg "BadKept" = some (.ref (clK K "BadKept"))
  i_BadKept : IsF K errT "BadKept" (.ref (clK K "BadKept"))
  x_BadHouse : mg "BadHouse" = some (.ref (clK K "BadHouse"))
  i_BadHouse : IsF K errT "BadHouse" (.ref (clK K "BadHouse"))
  x_BadGoing : mg "BadGoing" = some (.ref (clK K "BadGoing"))
  i_BadGoing : IsF K errT "BadGoing" (.ref (clK K "BadGoing"))
  x_BadFloor : mg "BadFloor" = some (.ref (clK K "BadFloor"))
  i_BadFloor : IsF K errT "BadFloor" (.ref (clK K "BadFloor"))
  x_BadMeasure : mg "BadMeasure" = some (.ref (clK K "BadMeasure"))
  i_BadMeasure : IsF K errT "BadMeasure" (.ref (clK K "BadMeasure"))
  x_BadLots : mg "BadLots" = some (.ref (clK K "BadLots"))
  i_BadLots : IsF K errT "BadLots" (.ref (clK K "BadLots"))
  x_BadLayers : mg "BadLayers" = some (.ref (clK K "BadLayers"))
  i_BadLayers : IsF K errT "BadLayers" (.ref (clK K "BadLayers"))
  x_BadLayer : mg "BadLayer" = some (.ref (clK K "BadLayer"))
  i_BadLayer : IsF K errT "BadLayer" (.ref (clK K "BadLayer"))
  x_BadPairs : mg "BadPairs" = some (.ref (clK K "BadPairs"))
  i_BadPairs : IsF K errT "BadPairs" (.ref (clK K "BadPairs"))
  x_BadName : mg "BadName" = some (.ref (clK K "BadName"))
  i_BadName : IsF K errT "BadName" (.ref (clK K "BadName"))
  x_BadMoment : mg "BadMoment" = some (.ref (clK K "BadMoment"))
  i_BadMoment : IsF K errT "BadMoment" (.ref (clK K "BadMoment"))
  x_BadModules : mg "BadModules" = some (.ref (clK K "BadModules"))
  i_BadModules : IsF K errT "BadModules" (.ref (clK K "BadModules"))
  x_BadRule : mg "BadRule" = some (.ref (clK K "BadRule"))
  i_BadRule : IsF K errT "BadRule" (.ref (clK K "BadRule"))
  x_BadRow : mg "BadRow" = some (.ref (clK K "BadRow"))
  i_BadRow : IsF K errT "BadRow" (.ref (clK K "BadRow"))
  x_BadQuery : mg "BadQuery" = some (.ref (clK K "BadQuery"))
  i_BadQuery : IsF K errT "BadQuery" (.ref (clK K "BadQuery"))
  x_BadPlan : mg "BadPlan" = some (.ref (clK K "BadPlan"))
  i_BadPlan : IsF K errT "BadPlan" (.ref (clK K "BadPlan"))
  x_BadState : mg "BadState" = some (.ref (clK K "BadState"))
  i_BadState : IsF K errT "BadState" (.ref (clK K "BadState"))
  x_BadSpread : mg "BadSpread" = some (.ref (clK K "BadSpread"))
  i_BadSpread : IsF K errT "BadSpread" (.ref (clK K "BadSpread"))
  x_BadSigns : mg "BadSigns" = some (.ref (clK K "BadSigns"))
  i_BadSigns : IsF K errT "BadSigns" (.ref (clK K "BadSigns"))
  x_BadSearches : mg "BadSearches" = some (.ref (clK K "BadSearches"))
  i_BadSearches : IsF K errT "BadSearches" (.ref (clK K "BadSearches"))
  x_BadThing : mg "BadThing" = some (.ref (clK K "BadThing"))
  i_BadThing : IsF K errT "BadThing" (.ref (clK K "BadThing"))
  x_BadText : mg "BadText" = some (.ref (clK K "BadText"))
  i_BadText : IsF K errT "BadText" (.ref (clK K "BadText"))
  x_BadSum : mg "BadSum" = some (.ref (clK K "BadSum"))
  i_BadSum : IsF K errT "BadSum" (.ref (clK K "BadSum"))
  x_BadStep : mg "BadStep" = some (.ref (clK K "BadStep"))
  i_BadStep : IsF K errT "BadStep" (.ref (clK K "BadStep"))
  x_CannotDeal : mg "CannotDeal" = some (.ref (clK K "CannotDeal"))
  i_CannotDeal : IsF K errT "CannotDeal" (.ref (clK K "CannotDeal"))
  x_CannotChange : mg "CannotChange" = some (.ref (clK K "CannotChange"))
  i_CannotChange : IsF K errT "CannotChange" (.ref (clK K "CannotChange"))
  x_Broken : mg "Broken" = some (.ref (clK K "Broken"))
  i_Broken : IsF K errT "Broken" (.ref (clK K "Broken"))
  x_BadWish : mg "BadWish" = some (.ref (clK K "BadWish"))
  i_BadWish : IsF K errT "BadWish" (.ref (clK K "BadWish"))
  x_NoPapers : mg "NoPapers" = some (.ref (clK K "NoPapers"))
  i_NoPapers : IsF K errT "NoPapers" (.ref (clK K "NoPapers"))
  x_NoAskingText : mg "NoAskingText" = some (.ref (clK K "NoAskingText"))
  i_NoAskingText : IsF K errT "NoAskingText" (.ref (clK K "NoAskingText"))
  x_LargeMeaning : mg "LargeMeaning" = some (.ref (clK K "LargeMeaning"))
  i_LargeMeaning : IsF K errT "LargeMeaning" (.ref (clK K "LargeMeaning"))
  x_Heavy : mg "Heavy" = some (.ref (clK K "Heavy"))
  i_Heavy : IsF K errT "Heavy" (.ref (clK K "Heavy"))
  x_NotSayable : mg "NotSayable" = some (.ref (clK K "NotSayable"))
  i_NotSayable : IsF K errT "NotSayable" (.ref (clK K "NotSayable"))
  x_NotOut : mg "NotOut" = some (.ref (clK K "NotOut"))
  i_NotOut : IsF K errT "NotOut" (.ref (clK K "NotOut"))
  x_NotClosed : mg "NotClosed" = some (.ref (clK K "NotClosed"))
  i_NotClosed : IsF K errT "NotClosed" (.ref (clK K "NotClosed"))
  x_NoStep : mg "NoStep" = some (.ref (clK K "NoStep"))
  i_NoStep : IsF K errT "NoStep" (.ref (clK K "NoStep"))
  x_TooManyWays : mg "TooManyWays" = some (.ref (clK K "TooManyWays"))
  i_TooManyWays : IsF K errT "TooManyWays" (.ref (clK K "TooManyWays"))
  x_TooLarge : mg "TooLarge" = some (.ref (clK K "TooLarge"))
  i_TooLarge : IsF K errT "TooLarge" (.ref (clK K "TooLarge"))
  x_NothingUndone : mg "NothingUndone" = some (.ref (clK K "NothingUndone"))
  i_NothingUndone : IsF K errT "NothingUndone" (.ref (clK K "NothingUndone"))
  x_NothingDone : mg "NothingDone" = some (.ref (clK K "NothingDone"))
  i_NothingDone : IsF K errT "NothingDone" (.ref (clK K "NothingDone"))
  x_Wide : mg "Wide" = some (.ref (clK K "Wide"))
  i_Wide : IsF K errT "Wide" (.ref (clK K "Wide"))
  x_Undecided : mg "Undecided" = some (.ref (clK K "Undecided"))
  i_Undecided : IsF K errT "Undecided" (.ref (clK K "Undecided"))
  x_FactsError : mg "FactsError" = some (.ref (clK K "FactsError"))
  i_FactsError : IsF K errT "FactsError" (.ref (clK K "FactsError"))
  n_ValueError : IsF K errT (Str.ofString "ValueError") (.type "ValueError")
  y_FactsError : mg "FactsError" = some (.ref (clK K "FactsError"))
  v_FactsError : PySem.W.kitOne K (.type "ValueError") (.ref (clK K "FactsError")) = some false
  o_BadChanges : OwnF K mg "BadChanges"
  o_BadChange : OwnF K mg "BadChange"
  o_BadCase : OwnF K mg "BadCase"
  o_BadBound : OwnF K mg "BadBound"
  o_BadBook : OwnF K mg "BadBook"
  o_BadBody : OwnF K mg "BadBody"
  o_BadFacts : OwnF K mg "BadFacts"
  o_BadFact : OwnF K mg "BadFact"
  o_BadDeal : OwnF K mg "BadDeal"
  o_BadCount : OwnF K mg "BadCount"
  o_BadCode : OwnF K mg "BadCode"
  o_BadClaims : OwnF K mg "BadClaims"
  o_BadLayers : OwnF K mg "BadLayers"
  o_BadLayer : OwnF K mg "BadLayer"
  o_BadKept : OwnF K mg "BadKept"
  o_BadHouse : OwnF K mg "BadHouse"
  o_BadGoing : OwnF K mg "BadGoing"
  o_BadFloor : OwnF K mg "BadFloor"
  o_BadPairs : OwnF K mg "BadPairs"
  o_BadName : OwnF K mg "BadName"
  o_BadMoment : OwnF K mg "BadMoment"
  s_BadModules : SupF P K mg "BadModules" "fault"
  o_BadMeasure : OwnF K mg "BadMeasure"
  o_BadLots : OwnF K mg "BadLots"
  s_BadSigns : SupF P K mg "BadSigns" "at"
  o_BadSearches : OwnF K mg "BadSearches"
  o_BadRule : OwnF K mg "BadRule"
  s_BadRow : SupF P K mg "BadRow" "number"
  o_BadQuery : OwnF K mg "BadQuery"
  o_BadPlan : OwnF K mg "BadPlan"
  o_BadThing : OwnF K mg "BadThing"
  o_BadText : OwnF K mg "BadText"
  o_BadSum : OwnF K mg "BadSum"
  o_BadStep : OwnF K mg "BadStep"
  o_BadState : OwnF K mg "BadState"
  o_BadSpread : OwnF K mg "BadSpread"
  o_LargeMeaning : OwnF K mg "LargeMeaning"
  o_Heavy : OwnF K mg "Heavy"
  s_CannotDeal : SupF P K mg "CannotDeal" "word"
  s_CannotChange : SupF P K mg "CannotChange" "word"
  s_Broken : SupF P K mg "Broken" "name"
  o_BadWish : OwnF K mg "BadWish"
  o_NotSayable : OwnF K mg "NotSayable"
  o_NotOut : OwnF K mg "NotOut"
  o_NotClosed : OwnF K mg "NotClosed"
  o_NoStep : OwnF K mg "NoStep"
  o_NoPapers : OwnF K mg "NoPapers"
  s_NoAskingText : SupF P K mg "NoAskingText" "fault"
  s_Wide : SupF P K mg "Wide" "number"
  s_Undecided : SupF P K mg "Undecided" "name"
  s_TooManyWays : SupF P K mg "TooManyWays" "most"
  o_TooLarge : OwnF K mg "TooLarge"
  o_NothingUndone : OwnF K mg "NothingUndone"
  o_NothingDone : OwnF K mg "NothingDone"
  o_FactsError : OwnF K mg "FactsError"
  d_at : FldF K fT_at "at"
  d_number : FldF K fT_number "number"
  d_fault : FldF K fT_fault "fault"
  d_word : FldF K fT_word "word"
  d_name : FldF K fT_name "name"
  d_most : FldF K fT_most "most"
  f_law_begun : Have K mg "_law_begun" st_law_begun
  f_law_blended : Have K mg "_law_blended" st_law_blended
  f_law_draw : Have K mg "_law_draw" st_law_draw
  f_law_pick : Have K mg "_law_pick" st_law_pick
  f_law_k00_flags : Have K mg "_law_k00_flags" st_law_k00_flags
section
variable {P : Program} {w : World} {K : PySem.W.Frag} {mg : Str → Option Value} {base : Heap} {TB : List (Addr × Str)}
/-! ### the source of draws -/
theorem sc_law_begun : FnScope ["script", "great", "cell"] ["script"] (defScope st_law_begun) := ⟨rfl, rfl, rfl, by decide +kernel, rfl, by decide +kernel, by decide +kernel⟩
theorem W_law_begun (T : Tx P K mg base TB) : FnH P w K mg base 1 "_law_begun" (spBegun K) := by
  refine fnH_hand (N := ["script", "great", "cell"]) (k := 0) (n := 0) (t := tBegun) T.f_law_begun sc_law_begun (fun _ _ _ _ _ _ us hl => match us, hl with | [_], _ => rfl) (fun vs H Q E h => by obtain ⟨a, ns, _, e, _⟩ := h; rw [e]; rfl) (fun y ok => ?_) (fun h => begun_run h)
  exact pss_cons (ps_setLc (X := (gOf P w K mg base 0 ["script", "great", "cell"] st_law_begun false).cx y) (i := 1) (own := [("cell", 2)]) rfl ok.nd rfl (by show y.env.scope.names.lookup _ = _; rw [ok.sc]; rfl) (sw_true (by show y.env.scope.kind = _; rw [ok.sc]; rfl) (by show y.env.scope.names.lookup _ = _; rw [ok.sc]; rfl) rfl (by decide +kernel))
      (pi_list (raw_var ok 0)) (blkOk_by (by show blkC _ y.env.scope _ _ = true; rw [ok.sc]; show blkC ["script", "great", "cell"] (defScope st_law_begun) _ _ = true; decide +kernel)) (fun s H C cl fp => raw_name (blk_ok ok s H C cl fp) 2)
      (fun s H C cl fp => pts_one (pt_cmpR op_ge (raw_abs (blk_ok ok s H C cl fp) 2 T.b_abs) (pe_op op_pow pe_int pe_int) (nomark _)))
      (fun s H C cl fp => pe_op op_sub (raw_abs (blk_ok ok s H C cl fp) 2 T.b_abs) (pe_op op_pow pe_int pe_int)) (fun _ => rfl))
    (pss_one (ps_ret (pe_disp (pps_cons pe_str (raw_var ok 1) (pps_cons pe_str (pe_lc (X := (gOf P w K mg base 0 ["script", "great", "cell"] st_law_begun false).cx y) (own := [("cell", 2)]) rfl ok.nd (pi_list (raw_var ok 0)) (blkOk_by (by show blkC _ y.env.scope _ _ = true; rw [ok.sc]; show blkC ["script", "great", "cell"] (defScope st_law_begun) _ _ = true; decide +kernel)) (fun s H C cl fp => raw_name (blk_ok ok s H C cl fp) 2) (fun s H C cl fp => pts_nil)
      (fun s H C cl fp => raw_abs (blk_ok ok s H C cl fp) 2 T.b_abs) (fun _ => rfl)) (pps_cons pe_str pe_int (pps_cons pe_str pe_int pps_nil)))) rfl rfl (by simp) (by decide))))
theorem sc_law_blended : FnScope ["state", "turn", "found", "prime", "blend", "cell"] ["state"] (defScope st_law_blended) := ⟨rfl, rfl, rfl, by decide +kernel, rfl, by decide +kernel, by decide +kernel⟩
theorem W_law_blended (T : Tx P K mg base TB) : FnH P w K mg base 1 "_law_blended" (spBl K) := by
  refine fnH_hand (N := ["state", "turn", "found", "prime", "blend", "cell"]) (k := 0) (n := 0) (t := tBl) T.f_law_blended sc_law_blended (fun _ _ _ _ _ _ us hl => match us, hl with | [_], _ => rfl) (fun vs H Q E h => by obtain ⟨c, _, _, _, _, e, _⟩ := h; rw [e]; rfl) (fun y ok => ?_) (fun h => bl_run h)
  exact pss_cons (raw_par ok 1 2 (pa_cons (pe_op op_add (pe_dget (hu_of ok.room) (raw_var ok 0) pe_str (fun _ _ => rfl)) pe_int) (pa_cons pe_int pa_nil)))
    (pss_cons (ps_dput (hu_of ok.room) (raw_var ok 0) pe_str (raw_var ok 1) rfl)
    (pss_cons (ps_for ok.po rfl (pi_list (pe_lst (pa_cons pe_int (pa_cons pe_int (pa_cons pe_int pa_nil))))) (raw_name ok 3)
      (pss_cons (raw_set ok 4 (pe_op op_add (pe_op op_mul pe_int (raw_var ok 1)) (pe_op op_fdiv (raw_var ok 3) pe_int)) (by rfl))
      (pss_cons (ps_for ok.po rfl (pi_list (pe_dget (hu_of ok.room) (raw_var ok 0) pe_str (fun _ _ => rfl))) (raw_name ok 5)
          (pss_one (raw_set ok 4 (pe_op op_mod (raw_int ok T.b_int (pe_op op_add (pe_op op_add (pe_op op_mul (raw_var ok 4) pe_int) (raw_var ok 5)) (raw_var ok 1)) (by rfl)) (raw_var ok 3)) (by rfl))) (fun _ => rfl))
        (pss_one (raw_set ok 2 (pe_op op_add (pe_op op_mul (raw_var ok 2) pe_int) (pe_op op_mod (raw_int ok T.b_int (pe_op op_pow5 (raw_var ok 4) pe_int) (by rfl)) (raw_var ok 3))) (by rfl))))) (fun _ => rfl))
      (pss_one (ps_ret (raw_var ok 2)))))
theorem sc_law_draw : FnScope ["state", "size_here", "found"] ["state", "size_here"] (defScope st_law_draw) := ⟨rfl, rfl, rfl, by decide +kernel, rfl, by decide +kernel, by decide +kernel⟩
abbrev S_law_draw : WFn := drawF
theorem W_law_draw (T : Tx P K mg base TB) : FnW P w K mg base 2 "_law_draw" 2 S_law_draw TB := by
  refine fnW_hand (N := ["state", "size_here", "found"]) (k := 1) (t := tDraw) T.f_law_draw sc_law_draw (fun _ _ _ _ _ _ us hl => match us, hl with | [_, _], _ => rfl) rfl (fun y ok => ?_) (fun h => draw_run h)
  obtain ⟨fB, fdB, psB, FB, hmB, hkB, hbB⟩ := (W_law_blended (P := P) (w := w) (base := base) T).ex
  have lf : ∀ {p1 p2 p3 : Pos} {j}, PE ((gOf P w K mg base 1 ["state", "size_here", "found"] st_law_draw false TB).cx y) (.Subscript (.Name "state" p1) (.Constant (.str "left") j p2) p3) tLeft := fun {p1 p2 p3 j} => pe_dget (hu_of ok.room) (raw_var ok 0) pe_str (fun _ _ => rfl)
  exact pss_cons (ps_if (pt_cmpR op_eqI lf pe_int (nomark _))
      (pss_one (ps_dput (hu_of ok.room) (raw_var ok 0) pe_str
        (pe_ifExp (pt_cmpR (op_neA ok.room.units) (pe_dget (hu_of ok.room) (raw_var ok 0) pe_str (fun _ _ => rfl)) (pe_lst pa_nil) (nomark _))
          (pe_bm PySem.F.plainAttrs_list PySem.F.slot_list_pop PySem.F.type_list_pop mt_popAt (pe_dget (hu_of ok.room) (raw_var ok 0) pe_str (fun _ _ => rfl)) (pa_cons pe_int pa_nil))
          (pe_call FB ok.room (ok.gl rfl) hmB hkB hbB .nil L2.pass0 (pa_cons (raw_var ok 0) pa_nil))) rfl)) pss_nil)
    (pss_cons (raw_set ok 2 (pe_op op_mod (raw_int ok T.b_int lf (by rfl)) (raw_var ok 1)) (by rfl))
    (pss_cons (ps_dput (hu_of ok.room) (raw_var ok 0) pe_str (pe_op op_fdiv lf (raw_var ok 1)) rfl)
      (pss_one (ps_ret (raw_var ok 2)))))
/-! ### _law_pick -/
abbrev N_law_pick : List Str := ["state", "several"]
theorem sc_law_pick : FnScope N_law_pick ["state", "several"] (defScope st_law_pick) := ⟨rfl, rfl, rfl, by decide +kernel, rfl, by decide +kernel, by decide +kernel⟩
def m_law_pick : WS := (sRet (eOp ixD (eVar 1) (eCall S_law_draw (aCons (eVar 0) (aCons (eCB lenD (aCons (eVar 1) aNil)) aNil)))))
theorem d_law_pick (T : Tx P K mg base TB) : DSs (gOf P w K mg base 2 N_law_pick st_law_pick false TB) (defBody st_law_pick) m_law_pick := (ds_one (ds_ret (de_ix (de_var 1) (de_call (W_law_draw T) (da_cons (de_var 0) (da_cons (de_cb (fun y ok => call_len) s_len T.b_len (da_cons (de_var 1) da_nil)) da_nil))))))
theorem w_law_pick (T : Tx P K mg base TB) : FnW P w K mg base 3 "_law_pick" 2 (fnF N_law_pick m_law_pick) TB := fnW_of T.f_law_pick sc_law_pick (by decide) (fun _ _ _ _ _ _ us hl => match us, hl with | [_, _], _ => rfl) (d_law_pick T)
theorem u_law_pick {d0 d1 : D} {R : D → Prop} : (fnF N_law_pick m_law_pick).f [d0, d1] R = m_law_pick.f { nx := fun _ => R .non, rt := R } ⟨[.sh d0, .sh d1], fun _ => False⟩ := rfl
/-- one of several: of a list, of a tuple, of a text -/
def S_law_pick : WFn := ⟨fun ds R => ∃ d l, ds = [.st, d] ∧ items d = some l ∧ 0 < l.length ∧ l.length < 2 ^ 30 ∧ ∀ x ∈ l, R x, 1⟩
theorem pick_len {d : D} {l : List D} (h : items d = some l) : lenD [d] = some (.int l.length) := by
  cases d with
  | lst xs => cases h; rfl
  | tup xs => cases h; rfl
  | str z => cases h; show some (D.int z.length) = some (D.int ((signs z).length : Nat)); unfold signs; rw [List.length_map, Array.length_toList]; rfl
  | _ => cases h
theorem pick_ix {d : D} {l : List D} (h : items d = some l) {r : Nat} (hr : r < l.length) : ixD d (.int (r : Nat)) = some l[r] := by
  have e := atI_nat (List.getElem?_eq_getElem hr)
  cases d with
  | lst xs => cases h; exact e
  | tup xs => cases h; exact e
  | str z =>
    cases h
    have hr2 : r < z.cps.toList.length := by unfold signs at hr; rwa [List.length_map] at hr
    show (atI z.cps.toList (r : Nat)).map _ = _
    rw [atI_nat (List.getElem?_eq_getElem hr2)]
    simp [signs]
  | _ => cases h
theorem I_law_pick : ∀ ds R, ds.length = 2 → S_law_pick.f ds R → (fnF N_law_pick m_law_pick).f ds R := by
  rintro _ R - ⟨d, l, rfl, hi, h0, h1, h⟩
  rw [u_law_pick]
  simp [m_law_pick, drawF]
  refine ⟨_, pick_len hi, ?_⟩
  simp
  refine ⟨by omega, by omega, fun r r0 r1 => ?_⟩
  have hr : r.toNat < l.length := by omega
  refine ⟨l[r.toNat], ?_, h _ (List.getElem_mem hr)⟩
  have := pick_ix hi hr
  rwa [Int.toNat_of_nonneg r0] at this
theorem W_law_pick (T : Tx P K mg base TB) : FnW P w K mg base 3 "_law_pick" 2 S_law_pick TB := (w_law_pick T).imp (by decide) I_law_pick
/-! ### _law_k00_flags -/
abbrev N_law_k00_flags : List Str := ["error", "found"]
theorem sc_law_k00_flags : FnScope N_law_k00_flags ["error"] (defScope st_law_k00_flags) := ⟨rfl, rfl, rfl, by decide +kernel, rfl, by decide +kernel, by decide +kernel⟩
def X_law_k00_flags : XS := (X.sSeq (X.sSet 1 (X.eLst (X.aCons (X.eUn (isOwF errT "BadBody") (X.eVar 0)) (X.aCons (X.eUn (isOwF errT "BadBook") (X.eVar 0)) (X.aCons (X.eUn (isOwF errT "BadBound") (X.eVar 0)) (X.aCons (X.eUn (isOwF errT "BadCase") (X.eVar 0)) X.aNil)))))) (X.sSeq (X.sSet 1 (X.eOp addD (X.eVar 1) (X.eLst (X.aCons (X.eUn (isOwF errT "BadChange") (X.eVar 0)) (X.aCons (X.eUn (isOwF errT "BadChanges") (X.eVar 0)) (X.aCons (X.eUn (isOwF errT "BadClaims") (X.eVar 0)) (X.aCons (X.eUn (isOwF errT "BadCode") (X.eVar 0)) X.aNil))))))) (X.sSeq (X.sSet 1 (X.eOp addD (X.eVar 1) (X.eLst (X.aCons (X.eUn (isOwF errT "BadCount") (X.eVar 0)) (X.aCons (X.eUn (isOwF errT "BadDeal") (X.eVar 0)) (X.aCons (X.eUn (isOwF errT "BadFact") (X.eVar 0)) (X.aCons (X.eUn (isOwF errT "BadFacts") (X.eVar 0)) X.aNil))))))) (X.sSeq (X.sSet 1 (X.eOp addD (X.eVar 1) (X.eLst (X.aCons (X.eUn (isOwF errT "BadFloor") (X.eVar 0)) (X.aCons (X.eUn (isOwF errT "BadGoing") (X.eVar 0)) (X.aCons (X.eUn (isOwF errT "BadHouse") (X.eVar 0)) (X.aCons (X.eUn (isOwF errT "BadKept") (X.eVar 0)) X.aNil))))))) (X.sSeq (X.sSet 1 (X.eOp addD (X.eVar 1) (X.eLst (X.aCons (X.eUn (isOwF errT "BadLayer") (X.eVar 0)) (X.aCons (X.eUn (isOwF errT "BadLayers") (X.eVar 0)) (X.aCons (X.eUn (isOwF errT "BadLots") (X.eVar 0)) (X.aCons (X.eUn (isOwF errT "BadMeasure") (X.eVar 0)) X.aNil))))))) (X.sSeq (X.sSet 1 (X.eOp addD (X.eVar 1) (X.eLst (X.aCons (X.eUn (isOwF errT "BadModules") (X.eVar 0)) (X.aCons (X.eUn (isOwF errT "BadMoment") (X.eVar 0)) (X.aCons (X.eUn (isOwF errT "BadName") (X.eVar 0)) (X.aCons (X.eUn (isOwF errT "BadPairs") (X.eVar 0)) X.aNil))))))) (X.sSeq (X.sSet 1 (X.eOp addD (X.eVar 1) (X.eLst (X.aCons (X.eUn (isOwF errT "BadPlan") (X.eVar 0)) (X.aCons (X.eUn (isOwF errT "BadQuery") (X.eVar 0)) (X.aCons (X.eUn (isOwF errT "BadRow") (X.eVar 0)) (X.aCons (X.eUn (isOwF errT "BadRule") (X.eVar 0)) X.aNil))))))) (X.sSeq (X.sSet 1 (X.eOp addD (X.eVar 1) (X.eLst (X.aCons (X.eUn (isOwF errT "BadSearches") (X.eVar 0)) (X.aCons (X.eUn (isOwF errT "BadSigns") (X.eVar 0)) (X.aCons (X.eUn (isOwF errT "BadSpread") (X.eVar 0)) (X.aCons (X.eUn (isOwF errT "BadState") (X.eVar 0)) X.aNil))))))) (X.sSeq (X.sSet 1 (X.eOp addD (X.eVar 1) (X.eLst (X.aCons (X.eUn (isOwF errT "BadStep") (X.eVar 0)) (X.aCons (X.eUn (isOwF errT "BadSum") (X.eVar 0)) (X.aCons (X.eUn (isOwF errT "BadText") (X.eVar 0)) (X.aCons (X.eUn (isOwF errT "BadThing") (X.eVar 0)) X.aNil))))))) (X.sSeq (X.sSet 1 (X.eOp addD (X.eVar 1) (X.eLst (X.aCons (X.eUn (isOwF errT "BadWish") (X.eVar 0)) (X.aCons (X.eUn (isOwF errT "Broken") (X.eVar 0)) (X.aCons (X.eUn (isOwF errT "CannotChange") (X.eVar 0)) (X.aCons (X.eUn (isOwF errT "CannotDeal") (X.eVar 0)) X.aNil))))))) (X.sSeq (X.sSet 1 (X.eOp addD (X.eVar 1) (X.eLst (X.aCons (X.eUn (isOwF errT "Heavy") (X.eVar 0)) (X.aCons (X.eUn (isOwF errT "LargeMeaning") (X.eVar 0)) (X.aCons (X.eUn (isOwF errT "NoAskingText") (X.eVar 0)) (X.aCons (X.eUn (isOwF errT "NoPapers") (X.eVar 0)) X.aNil))))))) (X.sSeq (X.sSet 1 (X.eOp addD (X.eVar 1) (X.eLst (X.aCons (X.eUn (isOwF errT "NoStep") (X.eVar 0)) (X.aCons (X.eUn (isOwF errT "NotClosed") (X.eVar 0)) (X.aCons (X.eUn (isOwF errT "NotOut") (X.eVar 0)) (X.aCons (X.eUn (isOwF errT "NotSayable") (X.eVar 0)) X.aNil))))))) (X.sSeq (X.sSet 1 (X.eOp addD (X.eVar 1) (X.eLst (X.aCons (X.eUn (isOwF errT "NothingDone") (X.eVar 0)) (X.aCons (X.eUn (isOwF errT "NothingUndone") (X.eVar 0)) (X.aCons (X.eUn (isOwF errT "TooLarge") (X.eVar 0)) (X.aCons (X.eUn (isOwF errT "TooManyWays") (X.eVar 0)) X.aNil))))))) (X.sRet (X.eOp addD (X.eVar 1) (X.eLst (X.aCons (X.eUn (isOwF errT "Undecided") (X.eVar 0)) (X.aCons (X.eUn (isOwF errT "Wide") (X.eVar 0)) X.aNil))))))))))))))))))
def f_law_k00_flags : XFn := ⟨X_law_k00_flags.run N_law_k00_flags⟩
theorem d_law_k00_flags (T : Tx P K mg base TB) : DSs (gOf P w K mg base 0 N_law_k00_flags st_law_k00_flags false TB) (defBody st_law_k00_flags) X_law_k00_flags.m := (ds_cons (ds_set 1 (de_lst (da_cons (de_isOwF errT T.x_BadBody T.i_BadBody T.b_isinstance (de_var 0)) (da_cons (de_isOwF errT T.x_BadBook T.i_BadBook T.b_isinstance (de_var 0)) (da_cons (de_isOwF errT T.x_BadBound T.i_BadBound T.b_isinstance (de_var 0)) (da_cons (de_isOwF errT T.x_BadCase T.i_BadCase T.b_isinstance (de_var 0)) da_nil)))))) (ds_cons (ds_set 1 (de_op (fun y ok => op_addA) s_add (de_var 1) (de_lst (da_cons (de_isOwF errT T.x_BadChange T.i_BadChange T.b_isinstance (de_var 0)) (da_cons (de_isOwF errT T.x_BadChanges T.i_BadChanges T.b_isinstance (de_var 0)) (da_cons (de_isOwF errT T.x_BadClaims T.i_BadClaims T.b_isinstance (de_var 0)) (da_cons (de_isOwF errT T.x_BadCode T.i_BadCode T.b_isinstance (de_var 0)) da_nil))))))) (ds_cons (ds_set 1 (de_op (fun y ok => op_addA) s_add (de_var 1) (de_lst (da_cons (de_isOwF errT T.x_BadCount T.i_BadCount T.b_isinstance (de_var 0)) (da_cons (de_isOwF errT T.x_BadDeal T.i_BadDeal T.b_isinstance (de_var 0)) (da_cons (de_isOwF errT T.x_BadFact T.i_BadFact T.b_isinstance (de_var 0)) (da_cons (de_isOwF errT T.x_BadFacts T.i_BadFacts T.b_isinstance (de_var 0)) da_nil))))))) (ds_cons (ds_set 1 (de_op (fun y ok => op_addA) s_add (de_var 1) (de_lst (da_cons (de_isOwF errT T.x_BadFloor T.i_BadFloor T.b_isinstance (de_var 0)) (da_cons (de_isOwF errT T.x_BadGoing T.i_BadGoing T.b_isinstance (de_var 0)) (da_cons (de_isOwF errT T.x_BadHouse T.i_BadHouse T.b_isinstance (de_var 0)) (da_cons (de_isOwF errT T.x_BadKept T.i_BadKept T.b_isinstance (de_var 0)) da_nil))))))) (ds_cons (ds_set 1 (de_op (fun y ok => op_addA) s_add (de_var 1) (de_lst (da_cons (de_isOwF errT T.x_BadLayer T.i_BadLayer T.b_isinstance (de_var 0)) (da_cons (de_isOwF errT T.x_BadLayers T.i_BadLayers T.b_isinstance (de_var 0)) (da_cons (de_isOwF errT T.x_BadLots T.i_BadLots T.b_isinstance (de_var 0)) (da_cons (de_isOwF errT T.x_BadMeasure T.i_BadMeasure T.b_isinstance (de_var 0)) da_nil))))))) (ds_cons (ds_set 1 (de_op (fun y ok => op_addA) s_add (de_var 1) (de_lst (da_cons (de_isOwF errT T.x_BadModules T.i_BadModules T.b_isinstance (de_var 0)) (da_cons (de_isOwF errT T.x_BadMoment T.i_BadMoment T.b_isinstance (de_var 0)) (da_cons (de_isOwF errT T.x_BadName T.i_BadName T.b_isinstance (de_var 0)) (da_cons (de_isOwF errT T.x_BadPairs T.i_BadPairs T.b_isinstance (de_var 0)) da_nil))))))) (ds_cons (ds_set 1 (de_op (fun y ok => op_addA) s_add (de_var 1) (de_lst (da_cons (de_isOwF errT T.x_BadPlan T.i_BadPlan T.b_isinstance (de_var 0)) (da_cons (de_isOwF errT T.x_BadQuery T.i_BadQuery T.b_isinstance (de_var 0)) (da_cons (de_isOwF errT T.x_BadRow T.i_BadRow T.b_isinstance (de_var 0)) (da_cons (de_isOwF errT T.x_BadRule T.i_BadRule T.b_isinstance (de_var 0)) da_nil))))))) (ds_cons (ds_set 1 (de_op (fun y ok => op_addA) s_add (de_var 1) (de_lst (da_cons (de_isOwF errT T.x_BadSearches T.i_BadSearches T.b_isinstance (de_var 0)) (da_cons (de_isOwF errT T.x_BadSigns T.i_BadSigns T.b_isinstance (de_var 0)) (da_cons (de_isOwF errT T.x_BadSpread T.i_BadSpread T.b_isinstance (de_var 0)) (da_cons (de_isOwF errT T.x_BadState T.i_BadState T.b_isinstance (de_var 0)) da_nil))))))) (ds_cons (ds_set 1 (de_op (fun y ok => op_addA) s_add (de_var 1) (de_lst (da_cons (de_isOwF errT T.x_BadStep T.i_BadStep T.b_isinstance (de_var 0)) (da_cons (de_isOwF errT T.x_BadSum T.i_BadSum T.b_isinstance (de_var 0)) (da_cons (de_isOwF errT T.x_BadText T.i_BadText T.b_isinstance (de_var 0)) (da_cons (de_isOwF errT T.x_BadThing T.i_BadThing T.b_isinstance (de_var 0)) da_nil))))))) (ds_cons (ds_set 1 (de_op (fun y ok => op_addA) s_add (de_var 1) (de_lst (da_cons (de_isOwF errT T.x_BadWish T.i_BadWish T.b_isinstance (de_var 0)) (da_cons (de_isOwF errT T.x_Broken T.i_Broken T.b_isinstance (de_var 0)) (da_cons (de_isOwF errT T.x_CannotChange T.i_CannotChange T.b_isinstance (de_var 0)) (da_cons (de_isOwF errT T.x_CannotDeal T.i_CannotDeal T.b_isinstance (de_var 0)) da_nil))))))) (ds_cons (ds_set 1 (de_op (fun y ok => op_addA) s_add (de_var 1) (de_lst (da_cons (de_isOwF errT T.x_Heavy T.i_Heavy T.b_isinstance (de_var 0)) (da_cons (de_isOwF errT T.x_LargeMeaning T.i_LargeMeaning T.b_isinstance (de_var 0)) (da_cons (de_isOwF errT T.x_NoAskingText T.i_NoAskingText T.b_isinstance (de_var 0)) (da_cons (de_isOwF errT T.x_NoPapers T.i_NoPapers T.b_isinstance (de_var 0)) da_nil))))))) (ds_cons (ds_set 1 (de_op (fun y ok => op_addA) s_add (de_var 1) (de_lst (da_cons (de_isOwF errT T.x_NoStep T.i_NoStep T.b_isinstance (de_var 0)) (da_cons (de_isOwF errT T.x_NotClosed T.i_NotClosed T.b_isinstance (de_var 0)) (da_cons (de_isOwF errT T.x_NotOut T.i_NotOut T.b_isinstance (de_var 0)) (da_cons (de_isOwF errT T.x_NotSayable T.i_NotSayable T.b_isinstance (de_var 0)) da_nil))))))) (ds_cons (ds_set 1 (de_op (fun y ok => op_addA) s_add (de_var 1) (de_lst (da_cons (de_isOwF errT T.x_NothingDone T.i_NothingDone T.b_isinstance (de_var 0)) (da_cons (de_isOwF errT T.x_NothingUndone T.i_NothingUndone T.b_isinstance (de_var 0)) (da_cons (de_isOwF errT T.x_TooLarge T.i_TooLarge T.b_isinstance (de_var 0)) (da_cons (de_isOwF errT T.x_TooManyWays T.i_TooManyWays T.b_isinstance (de_var 0)) da_nil))))))) (ds_one (ds_ret (de_op (fun y ok => op_addA) s_add (de_var 1) (de_lst (da_cons (de_isOwF errT T.x_Undecided T.i_Undecided T.b_isinstance (de_var 0)) (da_cons (de_isOwF errT T.x_Wide T.i_Wide T.b_isinstance (de_var 0)) da_nil)))))))))))))))))))
theorem u_law_k00_flags {d0 : D} : f_law_k00_flags.F [d0] = (X_law_k00_flags.f [.sh d0, .un]).bind fin := by unfold f_law_k00_flags XS.run; rfl
abbrev S_law_k00_flags : WFn := f_law_k00_flags.S
theorem W_law_k00_flags (T : Tx P K mg base TB) : FnW P w K mg base 1 "_law_k00_flags" 1 S_law_k00_flags TB := (fnW_of T.f_law_k00_flags sc_law_k00_flags (by decide) (fun _ _ _ _ _ _ us hl => match us, hl with | [_], _ => rfl) (d_law_k00_flags T)).imp (Nat.le_of_eq X_law_k00_flags.z) xfn_I
section
open Res X
def CN : List Str := [("BadBody" : Str), "BadBook", "BadBound", "BadCase", "BadChange", "BadChanges", "BadClaims", "BadCode", "BadCount", "BadDeal", "BadFact", "BadFacts", "BadFloor", "BadGoing", "BadHouse", "BadKept", "BadLayer", "BadLayers", "BadLots", "BadMeasure", "BadModules", "BadMoment", "BadName", "BadPairs", "BadPlan", "BadQuery", "BadRow"] ++
  [("BadRule" : Str), "BadSearches", "BadSigns", "BadSpread", "BadState", "BadStep", "BadSum", "BadText", "BadThing", "BadWish", "Broken", "CannotChange", "CannotDeal", "Heavy", "LargeMeaning", "NoAskingText", "NoPapers", "NoStep", "NotClosed", "NotOut", "NotSayable", "NothingDone", "NothingUndone", "TooLarge", "TooManyWays", "Undecided", "Wide"]
theorem isOw_err {x : Str} {ks : List Str} {vs : List D} {an : List Str} (h : errT.lookup x = some an) (C : Str) : isOwF errT C (.err x ks vs) = some (.bl (an.contains C)) := by
  show (errT.lookup x).map _ = _
  rw [h]; rfl
theorem isTy_err {x : Str} {ks : List Str} {vs : List D} {an : List Str} (h : errT.lookup x = some an) (C : String) : isTyF errT C (.err x ks vs) = some (.bl (an.contains (Str.ofString C))) := by
  show (errT.lookup x).map _ = _
  rw [h]; rfl
theorem E_law_k00_flags {x : Str} {ks : List Str} {vs : List D} {an : List Str} (h : errT.lookup x = some an) : f_law_k00_flags.F [.err x ks vs] = .ok (.lst (CN.map fun c => .bl (an.contains c))) := by
  have hc := @isOw_err x ks vs an h
  rw [u_law_k00_flags]
  unfold X_law_k00_flags
  generalize hq : (fun c : Str => an.contains c) = q
  have hc2 : ∀ C, isOwF errT C (.err x ks vs) = some (.bl (q C)) := fun C => by rw [hc, ← hq]
  rw [show (fun c : Str => D.bl (an.contains c)) = fun c => .bl (q c) by rw [← hq]]
  clear hc hq
  generalize isOwF errT = io at hc2
  simp [hc2, addD_lst, sizeLine_eq, CN]
end
/-! ### law -/
abbrev N_law : List Str := ["script", "state", "turn", "text", "number", "other", "made", "at", "error", "base", "told", "place"]
theorem sc_law : FnScope N_law ["script"] (defScope st_law) := ⟨rfl, rfl, rfl, by decide +kernel, rfl, by decide +kernel, by decide +kernel⟩
def m_law : WS := (sSeq (sForV [0, 2, 3, 4, 5, 6, 7, 8, 9, 10] (iRange (aCons (eOp addD (eC (.int 1)) (eCB min2D (aCons (eCB lenD (aCons (eVar 0) aNil)) (aCons (eC (.int 3)) aNil)))) aNil)) (gN 2) (sSeq (sMany [3, 4, 5] [.e (eCall S_law_pick (aCons (eVar 1) (aCons (eLst (aCons (eC (.str "")) (aCons (eC (.str "a")) (aCons (eC (.str "no row")) aNil)))) aNil))), .e (eCall S_law_draw (aCons (eVar 1) (aCons (eC (.int 100)) aNil))), .e (eCall S_law_draw (aCons (eVar 1) (aCons (eC (.int 100)) aNil)))]) (sSeq (sSet 6 (eLst (aCons (eUn (errD "BadBody") (eVar 3)) (aCons (eUn (errD "BadBook") (eVar 3)) (aCons (eUn (errD "BadBound") (eVar 3)) (aCons (eUn (errD "BadCase") (eVar 3)) (aCons (eUn (errD "BadChange") (eVar 3)) (aCons (eUn (errD "BadChanges") (eVar 3)) aNil)))))))) (sSeq (sSet 6 (eOp addD (eVar 6) (eLst (aCons (eUn (errD "BadClaims") (eVar 3)) (aCons (eUn (errD "BadCode") (eVar 3)) (aCons (eUn (errD "BadCount") (eVar 3)) (aCons (eUn (errD "BadDeal") (eVar 3)) (aCons (eUn (errD "BadFact") (eVar 3)) (aCons (eUn (errD "BadFacts") (eVar 3)) aNil))))))))) (sSeq (sSet 6 (eOp addD (eVar 6) (eLst (aCons (eUn (errD "BadFloor") (eVar 3)) (aCons (eUn (errD "BadGoing") (eVar 3)) (aCons (eUn (errD "BadHouse") (eVar 3)) (aCons (eUn (errD "BadKept") (eVar 3)) (aCons (eUn (errD "BadLayer") (eVar 3)) (aCons (eUn (errD "BadLayers") (eVar 3)) aNil))))))))) (sSeq (sSet 6 (eOp addD (eVar 6) (eLst (aCons (eUn (errD "BadLots") (eVar 3)) (aCons (eUn (errD "BadMeasure") (eVar 3)) (aCons (eUn (errD1 "BadModules" "fault") (eVar 4)) (aCons (eUn (errD "BadMoment") (eVar 3)) (aCons (eUn (errD "BadName") (eVar 3)) (aCons (eUn (errD "BadPairs") (eVar 3)) aNil))))))))) (sSeq (sSet 6 (eOp addD (eVar 6) (eLst (aCons (eUn (errD "BadPlan") (eVar 3)) (aCons (eUn (errD "BadQuery") (eVar 3)) (aCons (eUn (errD1 "BadRow" "number") (eVar 4)) (aCons (eUn (errD "BadRule") (eVar 3)) (aCons (eUn (errD "BadSearches") (eVar 3)) (aCons (eUn (errD1 "BadSigns" "at") (eVar 4)) aNil))))))))) (sSeq (sSet 6 (eOp addD (eVar 6) (eLst (aCons (eUn (errD "BadSpread") (eVar 3)) (aCons (eUn (errD "BadState") (eVar 3)) (aCons (eUn (errD "BadStep") (eVar 3)) (aCons (eUn (errD "BadSum") (eVar 3)) (aCons (eUn (errD "BadText") (eVar 3)) (aCons (eUn (errD "BadThing") (eVar 3)) aNil))))))))) (sSeq (sSet 6 (eOp addD (eVar 6) (eLst (aCons (eUn (errD "BadWish") (eVar 3)) (aCons (eUn (errD1 "Broken" "name") (eVar 4)) (aCons (eUn (errD1 "CannotChange" "word") (eVar 4)) (aCons (eUn (errD1 "CannotDeal" "word") (eVar 4)) (aCons (eUn (errD "Heavy") (eVar 3)) (aCons (eUn (errD "LargeMeaning") (eVar 3)) aNil))))))))) (sSeq (sSet 6 (eOp addD (eVar 6) (eLst (aCons (eUn (errD1 "NoAskingText" "fault") (eVar 4)) (aCons (eUn (errD "NoPapers") (eVar 3)) (aCons (eUn (errD "NoStep") (eVar 3)) (aCons (eUn (errD "NotClosed") (eVar 3)) (aCons (eUn (errD "NotOut") (eVar 3)) (aCons (eUn (errD "NotSayable") (eVar 3)) aNil))))))))) (sSeq (sSet 6 (eOp addD (eVar 6) (eLst (aCons (eUn (errD "NothingDone") (eVar 3)) (aCons (eUn (errD "NothingUndone") (eVar 3)) (aCons (eUn (errD "TooLarge") (eVar 3)) (aCons (eUn (errD1 "TooManyWays" "most") (eVar 4)) (aCons (eUn (errD1 "Undecided" "name") (eVar 4)) (aCons (eUn (errD1 "Wide" "number") (eVar 4)) aNil))))))))) (sSeq (sForV [0, 2, 5, 7, 8, 9, 10] (iEnum (aCons (eVar 6) aNil)) (gP 7 8) (sSeq (sIf (tV (eOp neD (eCall S_law_k00_flags (aCons (eVar 8) aNil)) (eLc (iRange (aCons (eCB lenD (aCons (eVar 6) aNil)) aNil)) (gN 11) cYes (eOp eqD (eVar 11) (eVar 7)) [11]))) (sRet (eC (.bl false))) sNext) (sIf (cOr (cNot (tV (eUn (isOwF errT "FactsError") (eVar 8)))) (cNot (tV (eUn (isTyF errT "ValueError") (eVar 8))))) (sRet (eC (.bl false))) sNext))) (sSeq (sSet 9 (eUn (errD "FactsError") (eVar 3))) (sSeq (sIf (cOr (tV (eOp inD (eC (.bl true)) (eCall S_law_k00_flags (aCons (eVar 9) aNil)))) (cOr (cNot (tV (eUn (isTyF errT "ValueError") (eVar 9)))) (tV (eUn (cstD false) (eVar 3))))) (sRet (eC (.bl false))) sNext) (sSeq (sSet 10 (eLst (aCons (eUn (fldD fT_fault "fault") (eUn (errD1 "BadModules" "fault") (eVar 4))) (aCons (eUn (fldD fT_fault "fault") (eUn (errD1 "BadModules" "fault") (eVar 4))) (aCons (eUn (fldD fT_number "number") (eUn (errD1 "BadRow" "number") (eVar 4))) (aCons (eUn (fldD fT_number "number") (eUn (errD1 "BadRow" "number") (eVar 4))) (aCons (eUn (fldD fT_at "at") (eUn (errD1 "BadSigns" "at") (eVar 4))) (aCons (eUn (fldD fT_at "at") (eUn (errD1 "BadSigns" "at") (eVar 4))) aNil)))))))) (sSeq (sSet 10 (eOp addD (eVar 10) (eLst (aCons (eUn (fldD fT_name "name") (eUn (errD1 "Broken" "name") (eVar 4))) (aCons (eUn (fldD fT_name "name") (eUn (errD1 "Broken" "name") (eVar 4))) (aCons (eUn (fldD fT_word "word") (eUn (errD1 "CannotChange" "word") (eVar 4))) (aCons (eUn (fldD fT_word "word") (eUn (errD1 "CannotChange" "word") (eVar 4))) (aCons (eUn (fldD fT_word "word") (eUn (errD1 "CannotDeal" "word") (eVar 4))) (aCons (eUn (fldD fT_word "word") (eUn (errD1 "CannotDeal" "word") (eVar 4))) aNil))))))))) (sSeq (sSet 10 (eOp addD (eVar 10) (eLst (aCons (eUn (fldD fT_fault "fault") (eUn (errD1 "NoAskingText" "fault") (eVar 4))) (aCons (eUn (fldD fT_fault "fault") (eUn (errD1 "NoAskingText" "fault") (eVar 4))) (aCons (eUn (fldD fT_most "most") (eUn (errD1 "TooManyWays" "most") (eVar 4))) (aCons (eUn (fldD fT_most "most") (eUn (errD1 "TooManyWays" "most") (eVar 4))) (aCons (eUn (fldD fT_name "name") (eUn (errD1 "Undecided" "name") (eVar 4))) (aCons (eUn (fldD fT_name "name") (eUn (errD1 "Undecided" "name") (eVar 4))) aNil))))))))) (sSeq (sSet 10 (eOp addD (eVar 10) (eLst (aCons (eUn (fldD fT_number "number") (eUn (errD1 "Wide" "number") (eVar 4))) (aCons (eUn (fldD fT_number "number") (eUn (errD1 "Wide" "number") (eVar 4))) aNil))))) (sIf (tV (eReprNe (eVar 10) (eRepL (fLst (aCons (eVar 4) aNil)) (eC (.int 20))))) (sRet (eC (.bl false))) sNext))))))))))))))))))) (sRet (eC (.bl true))))
theorem d_law (T : Tx P K mg base TB) : DSs (gOfG P w K mg base 3 N_law "law" st_law TB) (defBody st_law).tail m_law := (ds_cons (ds_forV [0, 2, 3, 4, 5, 6, 7, 8, 9, 10] (di_range T.b_range (da_cons (de_op (fun y ok => op_addA) s_add de_int (de_cb (fun y ok => call_min2 rfl) s_min2 T.b_min (da_cons (de_cb (fun y ok => call_len) s_len T.b_len (da_cons (de_var 0) da_nil)) (da_cons de_int da_nil)))) da_nil)) (dg_name 2) (ds_cons (ds_many3 3 4 5 (dm_e (de_call (W_law_pick T) (da_cons (de_var 1) (da_cons (de_lst (da_cons de_str (da_cons de_str (da_cons de_str da_nil)))) da_nil))) (dm_e (de_call (W_law_draw T) (da_cons (de_var 1) (da_cons de_int da_nil))) (dm_e (de_call (W_law_draw T) (da_cons (de_var 1) (da_cons de_int da_nil))) dm_nil)))) (ds_cons (ds_set 6 (de_lst (da_cons (de_err0 T.o_BadBody (de_var 3)) (da_cons (de_err0 T.o_BadBook (de_var 3)) (da_cons (de_err0 T.o_BadBound (de_var 3)) (da_cons (de_err0 T.o_BadCase (de_var 3)) (da_cons (de_err0 T.o_BadChange (de_var 3)) (da_cons (de_err0 T.o_BadChanges (de_var 3)) da_nil)))))))) (ds_cons (ds_set 6 (de_op (fun y ok => op_addA) s_add (de_var 6) (de_lst (da_cons (de_err0 T.o_BadClaims (de_var 3)) (da_cons (de_err0 T.o_BadCode (de_var 3)) (da_cons (de_err0 T.o_BadCount (de_var 3)) (da_cons (de_err0 T.o_BadDeal (de_var 3)) (da_cons (de_err0 T.o_BadFact (de_var 3)) (da_cons (de_err0 T.o_BadFacts (de_var 3)) da_nil))))))))) (ds_cons (ds_set 6 (de_op (fun y ok => op_addA) s_add (de_var 6) (de_lst (da_cons (de_err0 T.o_BadFloor (de_var 3)) (da_cons (de_err0 T.o_BadGoing (de_var 3)) (da_cons (de_err0 T.o_BadHouse (de_var 3)) (da_cons (de_err0 T.o_BadKept (de_var 3)) (da_cons (de_err0 T.o_BadLayer (de_var 3)) (da_cons (de_err0 T.o_BadLayers (de_var 3)) da_nil))))))))) (ds_cons (ds_set 6 (de_op (fun y ok => op_addA) s_add (de_var 6) (de_lst (da_cons (de_err0 T.o_BadLots (de_var 3)) (da_cons (de_err0 T.o_BadMeasure (de_var 3)) (da_cons (de_err1 T.s_BadModules (de_var 4)) (da_cons (de_err0 T.o_BadMoment (de_var 3)) (da_cons (de_err0 T.o_BadName (de_var 3)) (da_cons (de_err0 T.o_BadPairs (de_var 3)) da_nil))))))))) (ds_cons (ds_set 6 (de_op (fun y ok => op_addA) s_add (de_var 6) (de_lst (da_cons (de_err0 T.o_BadPlan (de_var 3)) (da_cons (de_err0 T.o_BadQuery (de_var 3)) (da_cons (de_err1 T.s_BadRow (de_var 4)) (da_cons (de_err0 T.o_BadRule (de_var 3)) (da_cons (de_err0 T.o_BadSearches (de_var 3)) (da_cons (de_err1 T.s_BadSigns (de_var 4)) da_nil))))))))) (ds_cons (ds_set 6 (de_op (fun y ok => op_addA) s_add (de_var 6) (de_lst (da_cons (de_err0 T.o_BadSpread (de_var 3)) (da_cons (de_err0 T.o_BadState (de_var 3)) (da_cons (de_err0 T.o_BadStep (de_var 3)) (da_cons (de_err0 T.o_BadSum (de_var 3)) (da_cons (de_err0 T.o_BadText (de_var 3)) (da_cons (de_err0 T.o_BadThing (de_var 3)) da_nil))))))))) (ds_cons (ds_set 6 (de_op (fun y ok => op_addA) s_add (de_var 6) (de_lst (da_cons (de_err0 T.o_BadWish (de_var 3)) (da_cons (de_err1 T.s_Broken (de_var 4)) (da_cons (de_err1 T.s_CannotChange (de_var 4)) (da_cons (de_err1 T.s_CannotDeal (de_var 4)) (da_cons (de_err0 T.o_Heavy (de_var 3)) (da_cons (de_err0 T.o_LargeMeaning (de_var 3)) da_nil))))))))) (ds_cons (ds_set 6 (de_op (fun y ok => op_addA) s_add (de_var 6) (de_lst (da_cons (de_err1 T.s_NoAskingText (de_var 4)) (da_cons (de_err0 T.o_NoPapers (de_var 3)) (da_cons (de_err0 T.o_NoStep (de_var 3)) (da_cons (de_err0 T.o_NotClosed (de_var 3)) (da_cons (de_err0 T.o_NotOut (de_var 3)) (da_cons (de_err0 T.o_NotSayable (de_var 3)) da_nil))))))))) (ds_cons (ds_set 6 (de_op (fun y ok => op_addA) s_add (de_var 6) (de_lst (da_cons (de_err0 T.o_NothingDone (de_var 3)) (da_cons (de_err0 T.o_NothingUndone (de_var 3)) (da_cons (de_err0 T.o_TooLarge (de_var 3)) (da_cons (de_err1 T.s_TooManyWays (de_var 4)) (da_cons (de_err1 T.s_Undecided (de_var 4)) (da_cons (de_err1 T.s_Wide (de_var 4)) da_nil))))))))) (ds_cons (ds_forV [0, 2, 5, 7, 8, 9, 10] (di_enum T.b_enumerate (da_cons (de_var 6) da_nil)) (dg_pair 7 8) (ds_cons (ds_if (dt_cmp (fun y ok => op_neA ok.room.units) s_ne (de_call (W_law_k00_flags T) (da_cons (de_var 8) da_nil)) (de_lc [("place", 11)] (di_range T.b_range (da_cons (de_cb (fun y ok => call_len) s_len T.b_len (da_cons (de_var 6) da_nil)) da_nil)) (by first | exact blk_of (by decide +kernel) | exact blk_of2 (by decide +kernel) | (show blkC N_law (defScope st_law) _ _ = true; decide +kernel) | (show blkC N_law (relS _ (defScope st_law)) _ _ = true; decide +kernel)) (dg_name 11) dts_nil (de_cmp (fun y ok => op_eqA ok.room.units) s_eq (de_var 11) (de_var 7)))) (ds_one (ds_ret de_bl)) ds_nil) (ds_one (ds_if (dt_w (dw_or (dt_not (dt_val (de_isOwF errT T.x_FactsError T.i_FactsError T.b_isinstance (de_var 8)))) (dw_or1 (dt_not (dt_val (de_isTyF errT T.n_ValueError T.b_isinstance T.b_ValueError (de_var 8))))))) (ds_one (ds_ret de_bl)) ds_nil)))) (ds_cons (ds_set 9 (de_err0 T.o_FactsError (de_var 3))) (ds_cons (ds_if (dt_w (dw_or (dt_cmp (fun y ok => op_inA (Room.u66 ok.room)) s_in de_bl (de_call (W_law_k00_flags T) (da_cons (de_var 9) da_nil))) (dw_or (dt_not (dt_val (de_isTyF errT T.n_ValueError T.b_isinstance T.b_ValueError (de_var 9)))) (dw_or1 (dt_val (de_isVE T.y_FactsError T.v_FactsError T.b_isinstance T.b_ValueError (de_var 3))))))) (ds_one (ds_ret de_bl)) ds_nil) (ds_cons (ds_set 10 (de_lst (da_cons (de_fld T.d_fault (de_err1 T.s_BadModules (de_var 4))) (da_cons (de_fld T.d_fault (de_err1K T.s_BadModules (de_var 4))) (da_cons (de_fld T.d_number (de_err1 T.s_BadRow (de_var 4))) (da_cons (de_fld T.d_number (de_err1K T.s_BadRow (de_var 4))) (da_cons (de_fld T.d_at (de_err1 T.s_BadSigns (de_var 4))) (da_cons (de_fld T.d_at (de_err1K T.s_BadSigns (de_var 4))) da_nil)))))))) (ds_cons (ds_set 10 (de_op (fun y ok => op_addA) s_add (de_var 10) (de_lst (da_cons (de_fld T.d_name (de_err1 T.s_Broken (de_var 4))) (da_cons (de_fld T.d_name (de_err1K T.s_Broken (de_var 4))) (da_cons (de_fld T.d_word (de_err1 T.s_CannotChange (de_var 4))) (da_cons (de_fld T.d_word (de_err1K T.s_CannotChange (de_var 4))) (da_cons (de_fld T.d_word (de_err1 T.s_CannotDeal (de_var 4))) (da_cons (de_fld T.d_word (de_err1K T.s_CannotDeal (de_var 4))) da_nil))))))))) (ds_cons (ds_set 10 (de_op (fun y ok => op_addA) s_add (de_var 10) (de_lst (da_cons (de_fld T.d_fault (de_err1 T.s_NoAskingText (de_var 4))) (da_cons (de_fld T.d_fault (de_err1K T.s_NoAskingText (de_var 4))) (da_cons (de_fld T.d_most (de_err1 T.s_TooManyWays (de_var 4))) (da_cons (de_fld T.d_most (de_err1K T.s_TooManyWays (de_var 4))) (da_cons (de_fld T.d_name (de_err1 T.s_Undecided (de_var 4))) (da_cons (de_fld T.d_name (de_err1K T.s_Undecided (de_var 4))) da_nil))))))))) (ds_cons (ds_set 10 (de_op (fun y ok => op_addA) s_add (de_var 10) (de_lst (da_cons (de_fld T.d_number (de_err1 T.s_Wide (de_var 4))) (da_cons (de_fld T.d_number (de_err1K T.s_Wide (de_var 4))) da_nil))))) (ds_one (ds_if (dt_reprNe rfl T.b_repr (de_var 10) (de_repL (df_lst (da_cons (de_var 4) da_nil)) de_int)) (ds_one (ds_ret de_bl)) ds_nil)))))))))))))))))))) (ds_one (ds_ret de_bl)))
theorem eqv_bls : ∀ a b : List Bool, PyData.eqvAll (toPs (a.map .bl)) (toPs (b.map .bl)) = decide (a = b)
  | [], [] => rfl
  | [], _ :: _ => rfl
  | _ :: _, [] => rfl
  | x :: a, y :: b => by
    show (PyData.eqv (.bool x) (.bool y) && PyData.eqvAll (toPs (a.map .bl)) (toPs (b.map .bl))) = _
    rw [eqv_bls a b, Bool.eq_iff_iff]
    cases x <;> cases y <;> simp [PyData.eqv]
theorem dep_bls : ∀ a : List Bool, PyData.depthAll (toPs (a.map .bl)) ≤ 1
  | [] => by simp [toPs, PyData.depthAll]
  | x :: a => by
    have := dep_bls a
    simp only [List.map_cons, toPs, toP, PyData.depthAll, PyData.depth]
    omega
theorem okqs_bls : ∀ a : List Bool, okqs (a.map .bl) = true
  | [] => rfl
  | x :: a => by
    show (true && okqs (a.map .bl)) = true
    rw [okqs_bls a]; rfl
theorem neD_bls (a b : List Bool) : neD (.lst (a.map .bl)) (.lst (b.map .bl)) = some (.bl (!decide (a = b))) := by
  have : eqB (.lst (a.map .bl)) (.lst (b.map .bl)) = some (decide (a = b)) := by
    cases b with
    | nil =>
      show some ((a.map D.bl).isEmpty) = _
      cases a <;> rfl
    | cons y b =>
      have h := dep_bls a
      have e : emp (.lst (a.map .bl)) (.lst ((y :: b).map .bl)) = none := rfl
      unfold eqB
      rw [e, Option.none_or, if_pos ⟨by simp only [okq]; exact okqs_bls a, by simp only [okq]; exact okqs_bls (y :: b), by simp only [toP, PyData.depth]; omega⟩]
      simp only [toP, PyData.eqv]
      rw [eqv_bls]
  unfold neD; rw [this]; rfl
/-- the classes, with their fields -/
def CF : List (Str × Option Str) := [(("BadBody" : Str), none), ("BadBook", none), ("BadBound", none), ("BadCase", none), ("BadChange", none), ("BadChanges", none), ("BadClaims", none), ("BadCode", none), ("BadCount", none), ("BadDeal", none), ("BadFact", none), ("BadFacts", none), ("BadFloor", none), ("BadGoing", none), ("BadHouse", none), ("BadKept", none), ("BadLayer", none), ("BadLayers", none), ("BadLots", none), ("BadMeasure", none), ("BadModules", some ("fault" : Str)), ("BadMoment", none), ("BadName", none), ("BadPairs", none), ("BadPlan", none), ("BadQuery", none), ("BadRow", some ("number" : Str))] ++
  [(("BadRule" : Str), none), ("BadSearches", none), ("BadSigns", some ("at" : Str)), ("BadSpread", none), ("BadState", none), ("BadStep", none), ("BadSum", none), ("BadText", none), ("BadThing", none), ("BadWish", none), ("Broken", some ("name" : Str)), ("CannotChange", some ("word" : Str)), ("CannotDeal", some ("word" : Str)), ("Heavy", none), ("LargeMeaning", none), ("NoAskingText", some ("fault" : Str)), ("NoPapers", none), ("NoStep", none), ("NotClosed", none), ("NotOut", none), ("NotSayable", none), ("NothingDone", none), ("NothingUndone", none), ("TooLarge", none), ("TooManyWays", some ("most" : Str)), ("Undecided", some ("name" : Str)), ("Wide", some ("number" : Str))]
def mkE (n : D) (c : Str × Option Str) : D := .err c.1 (match c.2 with | none => [] | some f => [f]) (match c.2 with | none => [] | some _ => [n])
def AN (c : Str) : List Str := [c, "FactsError", "ValueError", "Exception", "BaseException", "object"]
theorem cf_look : ∀ c ∈ CF, errT.lookup c.1 = some (AN c.1) := by
  have h : (CF.all fun c => decide (errT.lookup c.1 = some (AN c.1))) = true := by decide +kernel
  exact fun c hc => of_decide_eq_true (List.all_eq_true.mp h c hc)
theorem cf_flags : ∀ i, i < 54 → CN.map (fun c => (AN (CF.getD i ("", none)).1).contains c) = (List.range 54).map fun (p : Nat) => decide ((p : Int) = (i : Int)) := by
  have h : ((List.range 54).all fun i => decide (CN.map (fun c => (AN (CF.getD i ("", none)).1).contains c) = (List.range 54).map fun (p : Nat) => decide ((p : Int) = (i : Int)))) = true := by decide +kernel
  exact fun i hi => of_decide_eq_true (List.all_eq_true.mp h i (List.mem_range.mpr hi))
theorem numd_mem : ∀ (k : Nat) (l : List D) (d : D), d ∈ numd k l → ∃ i x, l[i]? = some x ∧ d = .tup [.int ((k + i : Nat) : Int), x]
  | _, [], _, h => by cases h
  | k, x :: l, d, h => by
    rcases List.mem_cons.mp h with rfl | h
    · exact ⟨0, x, rfl, rfl⟩
    · obtain ⟨i, y, e, rfl⟩ := numd_mem (k + 1) l d h
      exact ⟨i + 1, y, e, by rw [Nat.add_assoc, Nat.add_comm 1 i]⟩
theorem made_ok {m : WS} {W : WEnds} {r : Env} {a b c o s6 s7 s8 s9 s10 s11 : Sl} {z n : D} (e : r.sl = [a, b, c, .sh z, .sh n, o, s6, s7, s8, s9, s10, s11])
    (hk : ∀ r', r'.sl = [a, b, c, .sh z, .sh n, o, .sh (.lst (CF.map (mkE n))), s7, s8, s9, s10, s11] → r'.ew = r.ew → m.f W r') : (sSeq (sSet 6 (eLst (aCons (eUn (errD "BadBody") (eVar 3)) (aCons (eUn (errD "BadBook") (eVar 3)) (aCons (eUn (errD "BadBound") (eVar 3)) (aCons (eUn (errD "BadCase") (eVar 3)) (aCons (eUn (errD "BadChange") (eVar 3)) (aCons (eUn (errD "BadChanges") (eVar 3)) aNil)))))))) (sSeq (sSet 6 (eOp addD (eVar 6) (eLst (aCons (eUn (errD "BadClaims") (eVar 3)) (aCons (eUn (errD "BadCode") (eVar 3)) (aCons (eUn (errD "BadCount") (eVar 3)) (aCons (eUn (errD "BadDeal") (eVar 3)) (aCons (eUn (errD "BadFact") (eVar 3)) (aCons (eUn (errD "BadFacts") (eVar 3)) aNil))))))))) (sSeq (sSet 6 (eOp addD (eVar 6) (eLst (aCons (eUn (errD "BadFloor") (eVar 3)) (aCons (eUn (errD "BadGoing") (eVar 3)) (aCons (eUn (errD "BadHouse") (eVar 3)) (aCons (eUn (errD "BadKept") (eVar 3)) (aCons (eUn (errD "BadLayer") (eVar 3)) (aCons (eUn (errD "BadLayers") (eVar 3)) aNil))))))))) (sSeq (sSet 6 (eOp addD (eVar 6) (eLst (aCons (eUn (errD "BadLots") (eVar 3)) (aCons (eUn (errD "BadMeasure") (eVar 3)) (aCons (eUn (errD1 "BadModules" "fault") (eVar 4)) (aCons (eUn (errD "BadMoment") (eVar 3)) (aCons (eUn (errD "BadName") (eVar 3)) (aCons (eUn (errD "BadPairs") (eVar 3)) aNil))))))))) (sSeq (sSet 6 (eOp addD (eVar 6) (eLst (aCons (eUn (errD "BadPlan") (eVar 3)) (aCons (eUn (errD "BadQuery") (eVar 3)) (aCons (eUn (errD1 "BadRow" "number") (eVar 4)) (aCons (eUn (errD "BadRule") (eVar 3)) (aCons (eUn (errD "BadSearches") (eVar 3)) (aCons (eUn (errD1 "BadSigns" "at") (eVar 4)) aNil))))))))) (sSeq (sSet 6 (eOp addD (eVar 6) (eLst (aCons (eUn (errD "BadSpread") (eVar 3)) (aCons (eUn (errD "BadState") (eVar 3)) (aCons (eUn (errD "BadStep") (eVar 3)) (aCons (eUn (errD "BadSum") (eVar 3)) (aCons (eUn (errD "BadText") (eVar 3)) (aCons (eUn (errD "BadThing") (eVar 3)) aNil))))))))) (sSeq (sSet 6 (eOp addD (eVar 6) (eLst (aCons (eUn (errD "BadWish") (eVar 3)) (aCons (eUn (errD1 "Broken" "name") (eVar 4)) (aCons (eUn (errD1 "CannotChange" "word") (eVar 4)) (aCons (eUn (errD1 "CannotDeal" "word") (eVar 4)) (aCons (eUn (errD "Heavy") (eVar 3)) (aCons (eUn (errD "LargeMeaning") (eVar 3)) aNil))))))))) (sSeq (sSet 6 (eOp addD (eVar 6) (eLst (aCons (eUn (errD1 "NoAskingText" "fault") (eVar 4)) (aCons (eUn (errD "NoPapers") (eVar 3)) (aCons (eUn (errD "NoStep") (eVar 3)) (aCons (eUn (errD "NotClosed") (eVar 3)) (aCons (eUn (errD "NotOut") (eVar 3)) (aCons (eUn (errD "NotSayable") (eVar 3)) aNil))))))))) (sSeq (sSet 6 (eOp addD (eVar 6) (eLst (aCons (eUn (errD "NothingDone") (eVar 3)) (aCons (eUn (errD "NothingUndone") (eVar 3)) (aCons (eUn (errD "TooLarge") (eVar 3)) (aCons (eUn (errD1 "TooManyWays" "most") (eVar 4)) (aCons (eUn (errD1 "Undecided" "name") (eVar 4)) (aCons (eUn (errD1 "Wide" "number") (eVar 4)) aNil))))))))) m))))))))).f W r := by
  simp [errD, errD1, e, addD_lst, sizeLine_eq]
  refine hk _ ?_ rfl
  simp [e, CF, mkE]
theorem told_ok {m : WS} {W : WEnds} {r : Env} {a b c z o s6 s7 s8 s9 s10 s11 : Sl} {n : D} (e : r.sl = [a, b, c, z, .sh n, o, s6, s7, s8, s9, s10, s11])
    (hk : ∀ r', r'.sl = [a, b, c, z, .sh n, o, s6, s7, s8, s9, .sh (.lst (rep 20 [n])), s11] → r'.ew = r.ew → m.f W r') : (sSeq (sSet 10 (eLst (aCons (eUn (fldD fT_fault "fault") (eUn (errD1 "BadModules" "fault") (eVar 4))) (aCons (eUn (fldD fT_fault "fault") (eUn (errD1 "BadModules" "fault") (eVar 4))) (aCons (eUn (fldD fT_number "number") (eUn (errD1 "BadRow" "number") (eVar 4))) (aCons (eUn (fldD fT_number "number") (eUn (errD1 "BadRow" "number") (eVar 4))) (aCons (eUn (fldD fT_at "at") (eUn (errD1 "BadSigns" "at") (eVar 4))) (aCons (eUn (fldD fT_at "at") (eUn (errD1 "BadSigns" "at") (eVar 4))) aNil)))))))) (sSeq (sSet 10 (eOp addD (eVar 10) (eLst (aCons (eUn (fldD fT_name "name") (eUn (errD1 "Broken" "name") (eVar 4))) (aCons (eUn (fldD fT_name "name") (eUn (errD1 "Broken" "name") (eVar 4))) (aCons (eUn (fldD fT_word "word") (eUn (errD1 "CannotChange" "word") (eVar 4))) (aCons (eUn (fldD fT_word "word") (eUn (errD1 "CannotChange" "word") (eVar 4))) (aCons (eUn (fldD fT_word "word") (eUn (errD1 "CannotDeal" "word") (eVar 4))) (aCons (eUn (fldD fT_word "word") (eUn (errD1 "CannotDeal" "word") (eVar 4))) aNil))))))))) (sSeq (sSet 10 (eOp addD (eVar 10) (eLst (aCons (eUn (fldD fT_fault "fault") (eUn (errD1 "NoAskingText" "fault") (eVar 4))) (aCons (eUn (fldD fT_fault "fault") (eUn (errD1 "NoAskingText" "fault") (eVar 4))) (aCons (eUn (fldD fT_most "most") (eUn (errD1 "TooManyWays" "most") (eVar 4))) (aCons (eUn (fldD fT_most "most") (eUn (errD1 "TooManyWays" "most") (eVar 4))) (aCons (eUn (fldD fT_name "name") (eUn (errD1 "Undecided" "name") (eVar 4))) (aCons (eUn (fldD fT_name "name") (eUn (errD1 "Undecided" "name") (eVar 4))) aNil))))))))) (sSeq (sSet 10 (eOp addD (eVar 10) (eLst (aCons (eUn (fldD fT_number "number") (eUn (errD1 "Wide" "number") (eVar 4))) (aCons (eUn (fldD fT_number "number") (eUn (errD1 "Wide" "number") (eVar 4))) aNil))))) m)))).f W r := by
  have h1 : fldD fT_fault "fault" (.err "BadModules" ["fault"] [n]) = some n := by kernel_rfl
  have h2 : fldD fT_number "number" (.err "BadRow" ["number"] [n]) = some n := by kernel_rfl
  have h3 : fldD fT_at "at" (.err "BadSigns" ["at"] [n]) = some n := by kernel_rfl
  have h4 : fldD fT_name "name" (.err "Broken" ["name"] [n]) = some n := by kernel_rfl
  have h5 : fldD fT_word "word" (.err "CannotChange" ["word"] [n]) = some n := by kernel_rfl
  have h6 : fldD fT_word "word" (.err "CannotDeal" ["word"] [n]) = some n := by kernel_rfl
  have h7 : fldD fT_fault "fault" (.err "NoAskingText" ["fault"] [n]) = some n := by kernel_rfl
  have h8 : fldD fT_most "most" (.err "TooManyWays" ["most"] [n]) = some n := by kernel_rfl
  have h9 : fldD fT_name "name" (.err "Undecided" ["name"] [n]) = some n := by kernel_rfl
  have h10 : fldD fT_number "number" (.err "Wide" ["number"] [n]) = some n := by kernel_rfl
  simp [errD1, e, addD_lst, sizeLine_eq, h1, h2, h3, h4, h5, h6, h7, h8, h9, h10]
  refine hk _ ?_ rfl
  simp [e, rep]
theorem Env.eq_of {r r2 : Env} (h : r.sl = r2.sl) (w : r.ew = r2.ew) : r = r2 := by
  cases r; cases r2; cases h; cases w; rfl
theorem reprO_of {d : D} (h1 : okq d = true) (h2 : (toP d).showable = true) (h3 : (toP d).depth ≤ 60) (h4 : (toP d).leavesShort 13 = true) (h5 : (toP d).weight ≤ 2 ^ 20) : reprO d = some (toP d).shown := by
  have := PyData.shown_fits (B := 13) (by decide) (by decide) h4 h5
  rw [sizeLine_eq] at this
  unfold reprO
  rw [if_pos]
  simp only [h1, h2, h3, this, decide_true, Bool.and_self]
theorem nat_short {n : Nat} (h : n < 1000) : (PyData.int (n : Int)).showable = true ∧ (PyData.int (n : Int)).leavesShort 13 = true ∧ (PyData.int (n : Int)).weight ≤ 11 := by
  have hl : n.log2 < 10 := by
    by_cases h0 : n = 0
    · rw [h0]; decide
    · exact (Nat.log2_lt h0).mpr (by omega)
  refine ⟨?_, ?_, ?_⟩
  · simp only [PyData.showable, Int.natAbs_natCast, decide_eq_true_eq]; omega
  · have := PyData.shown_int_le (i := (n : Int)) (by rw [Int.natAbs_natCast]; exact Nat.lt_trans h (by decide))
    simpa only [PyData.leavesShort, decide_eq_true_eq] using this
  · simp only [PyData.weight]
    split
    · decide
    · rw [Int.natAbs_natCast]; omega
theorem rep_repr {k : Int} (k0 : 0 ≤ k) (k1 : k < 100) : reprO (.lst (rep 20 [.int k])) = some (toP (.lst (rep 20 [.int k]))).shown := by
  obtain ⟨n, rfl⟩ := Int.eq_ofNat_of_zero_le k0
  obtain ⟨j1, j2, j3⟩ := nat_short (n := n) (by omega)
  have er : rep 20 [D.int (n : Int)] = [.int n, .int n, .int n, .int n, .int n, .int n, .int n, .int n, .int n, .int n, .int n, .int n, .int n, .int n, .int n, .int n, .int n, .int n, .int n, .int n] := by simp [rep]
  rw [er]
  refine reprO_of ?_ ?_ ?_ ?_ ?_
  · rfl
  · simp only [toP, toPs, PyData.showable, PyData.showableAll] at j1 ⊢; simp; simpa using j1
  · simp [toP, toPs, PyData.depth, PyData.depthAll]
  · simp only [toP, toPs, PyData.leavesShort, PyData.leavesShortAll] at j2 ⊢; simp [j2]
  · have e20 : (2 : Nat) ^ 20 = 1048576 := by decide
    have hw : ∀ m, PyData.weightAll (toPs (List.replicate m (D.int (n : Int)))) ≤ 12 * m := by
      intro m
      induction m with
      | zero => simp [toPs, PyData.weightAll]
      | succ m ih =>
        show PyData.weight (.int (n : Int)) + 1 + PyData.weightAll (toPs (List.replicate m (D.int (n : Int)))) ≤ _
        omega
    have := hw 20
    show PyData.weight (.list (toPs (List.replicate 20 (D.int (n : Int))))) ≤ _
    generalize toPs (List.replicate 20 (D.int (n : Int))) = q at this
    simp only [PyData.weight]; omega
theorem law_cost : m_law.n ≤ most := by unfold most; decide +kernel
theorem law_true : ∀ ns : List Int, ns.length ≤ 63 → m_law.f { nx := fun _ => False, rt := fun d => d = .bl true } (lawE2 N_law ns) := by
  intro ns hns
  have sz : sizeLine = 16777216 := sizeLine_eq
  have e0 : (lawE2 N_law ns).sl = [.sh (.lst (ns.map .int)), .sh .st, .un, .un, .un, .un, .un, .un, .un, .un, .un, .un] := rfl
  have w0 : (lawE2 N_law ns).ew = fun _ => False := rfl
  generalize lawE2 N_law ns = r at e0 w0
  unfold m_law
  simp only [f_sSeq, f_sForV, f_iRange, f_aCons, f_aNil, f_eOp, f_eC, f_eCB, f_eVar, e0]
  refine ⟨_, rfl, _, lenD_lst, _, rfl, _, addD_int, _, rfl, ?_, ?_, ?_⟩
  · rw [List.length_map]; split <;> omega
  · rw [List.length_map]; split <;> omega
  refine forV_same rfl ?_ (fun d hd nx hn => ?_)
  · dsimp only; rw [f_sRet, f_eC]
  · have e1 : (r.forget [0, 2, 3, 4, 5, 6, 7, 8, 9, 10]).sl = [.un, .sh .st, .un, .un, .un, .un, .un, .un, .un, .un, .un, .un] := by unfold Env.forget; rw [e0]; rfl
    generalize r.forget [0, 2, 3, 4, 5, 6, 7, 8, 9, 10] = r0 at e1 hn
    rw [f_gN, f_sSeq]
    simp only [f_sMany, f_mE, f_mNil, f_eCall, f_aCons, f_aNil, f_eVar, f_eC, f_eLst, put_sl, e1, List.set]
    refine ⟨.st, rfl, by show 3 ≤ sizeLine; omega, _, _, rfl, rfl, by decide, by decide, fun txt htxt => ⟨.st, rfl, 100, rfl, by decide, by decide, fun k k0 k1 => ⟨.st, rfl, 100, rfl, by decide, by decide, fun k2 _ _ => ⟨by simp, ?_⟩⟩⟩⟩
    refine made_ok (a := .un) (b := .sh .st) (c := .sh d) (z := txt) (n := .int k) (o := .sh (.int k2)) (s6 := .un) (s7 := .un) (s8 := .un) (s9 := .un) (s10 := .un) (s11 := .un) (by simp [e1]) fun r1 e2 w2 => ?_
    rw [f_sSeq]
    simp only [f_sForV, f_iEnum, f_aCons, f_aNil, f_eVar, e2]
    refine ⟨_, rfl, _, _, rfl, rfl, ?_⟩
    refine forV_same rfl ?_ (fun d2 hd2 nx2 hn2 => ?_)
    · have e3 : (r1.forget [0, 2, 5, 7, 8, 9, 10]).sl = [.un, .sh .st, .un, .sh txt, .sh (.int k), .un, .sh (.lst (CF.map (mkE (.int k)))), .un, .un, .un, .un, .un] := by unfold Env.forget; rw [e2]; rfl
      have w3 : (r1.forget [0, 2, 5, 7, 8, 9, 10]).ew = r1.ew := rfl
      generalize r1.forget [0, 2, 5, 7, 8, 9, 10] = r2 at e3 w3
      dsimp only
      rw [f_sSeq, f_sSet]
      simp only [f_eUn, f_eVar, e3]
      refine ⟨_, rfl, _, rfl, ?_⟩
      have e4 : (r2.put 9 (.err "FactsError" [] [])).sl = [.un, .sh .st, .un, .sh txt, .sh (.int k), .un, .sh (.lst (CF.map (mkE (.int k)))), .un, .un, .sh (.err "FactsError" [] []), .un, .un] := by simp only [put_sl, e3, List.set]
      have w4 : (r2.put 9 (.err "FactsError" [] [])).ew = r1.ew := w3
      generalize r2.put 9 (.err "FactsError" [] []) = r3 at e4 w4
      have hl : errT.lookup ("FactsError" : Str) = some [("FactsError" : Str), "ValueError", "Exception", "BaseException", "object"] := by decide +kernel
      have hq := E_law_k00_flags (ks := []) (vs := []) hl
      have ht2 := isTy_err (ks := []) (vs := []) hl
      rw [f_sSeq, f_sIf]
      simp only [f_cOr, f_cNot, f_tV, f_eOp, f_eC, f_eCall, f_aCons, f_aNil, f_eVar, f_eUn, e4]
      refine ⟨_, rfl, ?_⟩
      rw [S_f, hq, Res.wp_ok]
      refine ⟨.bl false, by kernel_rfl, false, rfl, ?_⟩
      rw [if_neg (by decide)]
      refine ⟨_, rfl, _, ht2 "ValueError", _, rfl, ?_⟩
      rw [show (!(List.contains [("FactsError" : Str), "ValueError", "Exception", "BaseException", "object"] (Str.ofString "ValueError"))) = false by decide +kernel, if_neg (by decide)]
      refine ⟨_, rfl, .bl false, rfl, false, rfl, ?_⟩
      rw [if_neg (by decide), f_sNext]
      dsimp only
      refine told_ok (a := .un) (b := .sh .st) (c := .un) (z := .sh txt) (n := .int k) (o := .un) (s6 := .sh (.lst (CF.map (mkE (.int k))))) (s7 := .un) (s8 := .un) (s9 := .sh (.err "FactsError" [] [])) (s10 := .un) (s11 := .un) e4 fun r4 e5 w5 => ?_
      have hr := rep_repr k0 k1
      rw [f_sIf]
      simp only [f_tV, f_eReprNe, f_eVar, f_eRepL, f_fLstX, f_aCons, f_aNil, f_eC, e5]
      refine ⟨_, rfl, _, hr, _, rfl, by show 1 ≤ sizeLine; omega, 20, rfl, by decide, by show 1 ≤ 1000; decide, _, hr, _, rfl, ?_⟩
      rw [decide_eq_true rfl, if_neg (by decide), f_sNext]
      refine hn _ (Env.eq_of ?_ (by show r4.ew = r0.ew; rw [w5, w4, w2]; rfl))
      unfold Env.forget; rw [e5, e1]; rfl
    · have e3 : (r1.forget [0, 2, 5, 7, 8, 9, 10]).sl = [.un, .sh .st, .un, .sh txt, .sh (.int k), .un, .sh (.lst (CF.map (mkE (.int k)))), .un, .un, .un, .un, .un] := by unfold Env.forget; rw [e2]; rfl
      generalize r1.forget [0, 2, 5, 7, 8, 9, 10] = r2 at e3 hn2
      obtain ⟨i, x, hx, rfl⟩ := numd_mem _ _ _ hd2
      rw [List.getElem?_map] at hx
      obtain ⟨cf, hcf, rfl⟩ := Option.map_eq_some_iff.mp hx
      have hi : i < 54 := (List.getElem?_eq_some_iff.mp hcf).1
      have hm : cf ∈ CF := List.mem_of_getElem? hcf
      have hl := cf_look cf hm
      have hg : CF.getD i ("", none) = cf := by rw [List.getD_eq_getElem?_getD, hcf]; rfl
      have hfl := cf_flags i hi
      rw [hg] at hfl
      obtain ⟨ks, vs, hE⟩ : ∃ ks vs, mkE (.int k) cf = .err cf.1 ks vs := ⟨_, _, rfl⟩
      rw [hE]
      have hq := E_law_k00_flags (ks := ks) (vs := vs) hl
      have ht1 := isOw_err (ks := ks) (vs := vs) hl
      have ht2 := isTy_err (ks := ks) (vs := vs) hl
      simp only [f_gP, f_sSeq, f_sIf, f_tV, f_eOp, f_eCall, f_aCons, f_aNil, f_eVar, put_sl, e3, List.set]
      refine ⟨_, _, rfl, ?_⟩
      refine ⟨_, rfl, ?_⟩
      rw [S_f, hq, Res.wp_ok]
      have e4 : ((r2.put 7 (.int ((0 + i : Nat) : Int))).put 8 (.err cf.1 ks vs)).sl = [.un, .sh .st, .un, .sh txt, .sh (.int k), .un, .sh (.lst (CF.map (mkE (.int k)))), .sh (.int ((0 + i : Nat) : Int)), .sh (.err cf.1 ks vs), .un, .un, .un] := by simp only [put_sl, e3, List.set]
      have w4 : ((r2.put 7 (.int ((0 + i : Nat) : Int))).put 8 (.err cf.1 ks vs)).ew = r2.ew := rfl
      generalize (r2.put 7 (.int ((0 + i : Nat) : Int))).put 8 (.err cf.1 ks vs) = r3 at e4 w4
      simp only [f_eLc, f_iRange, f_eCB, f_aCons, f_aNil, f_eVar, e4]
      refine ⟨_, rfl, _, lenD_lst, _, rfl, ?_, ?_, ?_⟩
      · rw [List.length_map]; show _ ≤ _; decide
      · rw [List.length_map]; show _ ≤ _; decide
      have e5 : (wipeE r3 [11]).sl = [.un, .sh .st, .un, .sh txt, .sh (.int k), .un, .sh (.lst (CF.map (mkE (.int k)))), .sh (.int ((0 + i : Nat) : Int)), .sh (.err cf.1 ks vs), .un, .un, .un] := by show wipeL r3.sl [11] = _; rw [e4]; rfl
      generalize wipeE r3 [11] = r5 at e5
      refine lcW_map (fun d => match d with | .int p => .bl (decide (p = (i : Int))) | _ => .non) (fun d hd Kt hk => ?_) ?_
      · obtain ⟨p, rfl, _⟩ := upto_mem hd
        rw [f_gN]
        simp only [f_eOp, f_eVar, put_sl, e5, List.set]
        exact ⟨_, rfl, _, rfl, _, eqD_int _ _, by rw [Nat.zero_add]; exact hk⟩
      · have hf2 : [] ++ (upto (CF.map (mkE (.int k))).length).map (fun d => match d with | .int p => .bl (decide (p = (i : Int))) | _ => .non) = (((List.range 54).map fun (p : Nat) => decide ((p : Int) = (i : Int))).map D.bl) := by
          rw [List.length_map, List.nil_append, show CF.length = 54 from rfl]
          unfold upto
          rw [List.map_map, List.map_map]; rfl
        have hf3 : (CN.map fun c => D.bl ((AN cf.1).contains c)) = (((List.range 54).map fun (p : Nat) => decide ((p : Int) = (i : Int))).map D.bl) := by
          rw [← hfl, List.map_map]; rfl
        rw [Int.toNat_natCast, hf2, hf3]
        refine ⟨_, neD_bls _ _, _, rfl, ?_⟩
        rw [decide_eq_true rfl, if_neg (by decide), f_sNext]
        dsimp only
        rw [f_sIf]
        simp only [f_cOr, f_cNot, f_tV, f_eVar, f_eUn, e4]
        refine ⟨_, rfl, _, ht1 _, _, rfl, ?_⟩
        have c1 : (AN cf.1).contains "FactsError" = true := by simp [AN]
        have c2 : (AN cf.1).contains (Str.ofString "ValueError") = true := by simp [AN]
        rw [c1, if_neg (by decide)]
        refine ⟨_, rfl, _, ht2 _, _, rfl, ?_⟩
        rw [c2, if_neg (by decide), f_sNext]
        refine hn2 _ (Env.eq_of ?_ (by show r3.ew = r2.ew; exact w4))
        unfold Env.forget; rw [e4, e3]; rfl
theorem ok_law (T : Tx P K mg base TB) {f : Addr} {fd : FuncData} (hn : PySem.W.nsIn K mainGlobals "law" = some (some (.ref f))) (F : L2.Fun K "law" "law" st_law f fd) : FnG P w K mg base 4 f fd ["script"] (spLaw TB K) :=
  law_okG hn F sc_law (W_law_begun T) (by decide) rfl (d_law T) (by decide) rfl rfl rfl (by first | exact Or.inl rfl | exact Or.inr rfl) ⟨law_cost, law_true⟩
end
theorem sut_BadModules : SupT su_BadModules := ⟨⟨_, _, _, _, _, _, _, _, _, _, _, _, rfl, rfl⟩, ⟨_, rfl, rfl⟩, ⟨rfl, rfl, rfl⟩, by decide +kernel, ⟨rfl, rfl, rfl, rfl⟩, fun _ _ _ _ _ _ _ _ _ _ _ _ => rfl, fun _ _ _ _ _ _ _ _ _ _ _ _ => rfl, by decide, by decide⟩
theorem sut_BadSigns : SupT su_BadSigns := ⟨⟨_, _, _, _, _, _, _, _, _, _, _, _, rfl, rfl⟩, ⟨_, rfl, rfl⟩, ⟨rfl, rfl, rfl⟩, by decide +kernel, ⟨rfl, rfl, rfl, rfl⟩, fun _ _ _ _ _ _ _ _ _ _ _ _ => rfl, fun _ _ _ _ _ _ _ _ _ _ _ _ => rfl, by decide, by decide⟩
theorem sut_BadRow : SupT su_BadRow := ⟨⟨_, _, _, _, _, _, _, _, _, _, _, _, rfl, rfl⟩, ⟨_, rfl, rfl⟩, ⟨rfl, rfl, rfl⟩, by decide +kernel, ⟨rfl, rfl, rfl, rfl⟩, fun _ _ _ _ _ _ _ _ _ _ _ _ => rfl, fun _ _ _ _ _ _ _ _ _ _ _ _ => rfl, by decide, by decide⟩
theorem sut_CannotDeal : SupT su_CannotDeal := ⟨⟨_, _, _, _, _, _, _, _, _, _, _, _, rfl, rfl⟩, ⟨_, rfl, rfl⟩, ⟨rfl, rfl, rfl⟩, by decide +kernel, ⟨rfl, rfl, rfl, rfl⟩, fun _ _ _ _ _ _ _ _ _ _ _ _ => rfl, fun _ _ _ _ _ _ _ _ _ _ _ _ => rfl, by decide, by decide⟩
theorem sut_CannotChange : SupT su_CannotChange := ⟨⟨_, _, _, _, _, _, _, _, _, _, _, _, rfl, rfl⟩, ⟨_, rfl, rfl⟩, ⟨rfl, rfl, rfl⟩, by decide +kernel, ⟨rfl, rfl, rfl, rfl⟩, fun _ _ _ _ _ _ _ _ _ _ _ _ => rfl, fun _ _ _ _ _ _ _ _ _ _ _ _ => rfl, by decide, by decide⟩
theorem sut_Broken : SupT su_Broken := ⟨⟨_, _, _, _, _, _, _, _, _, _, _, _, rfl, rfl⟩, ⟨_, rfl, rfl⟩, ⟨rfl, rfl, rfl⟩, by decide +kernel, ⟨rfl, rfl, rfl, rfl⟩, fun _ _ _ _ _ _ _ _ _ _ _ _ => rfl, fun _ _ _ _ _ _ _ _ _ _ _ _ => rfl, by decide, by decide⟩
theorem sut_NoAskingText : SupT su_NoAskingText := ⟨⟨_, _, _, _, _, _, _, _, _, _, _, _, rfl, rfl⟩, ⟨_, rfl, rfl⟩, ⟨rfl, rfl, rfl⟩, by decide +kernel, ⟨rfl, rfl, rfl, rfl⟩, fun _ _ _ _ _ _ _ _ _ _ _ _ => rfl, fun _ _ _ _ _ _ _ _ _ _ _ _ => rfl, by decide, by decide⟩
theorem sut_Wide : SupT su_Wide := ⟨⟨_, _, _, _, _, _, _, _, _, _, _, _, rfl, rfl⟩, ⟨_, rfl, rfl⟩, ⟨rfl, rfl, rfl⟩, by decide +kernel, ⟨rfl, rfl, rfl, rfl⟩, fun _ _ _ _ _ _ _ _ _ _ _ _ => rfl, fun _ _ _ _ _ _ _ _ _ _ _ _ => rfl, by decide, by decide⟩
theorem sut_Undecided : SupT su_Undecided := ⟨⟨_, _, _, _, _, _, _, _, _, _, _, _, rfl, rfl⟩, ⟨_, rfl, rfl⟩, ⟨rfl, rfl, rfl⟩, by decide +kernel, ⟨rfl, rfl, rfl, rfl⟩, fun _ _ _ _ _ _ _ _ _ _ _ _ => rfl, fun _ _ _ _ _ _ _ _ _ _ _ _ => rfl, by decide, by decide⟩
theorem sut_TooManyWays : SupT su_TooManyWays := ⟨⟨_, _, _, _, _, _, _, _, _, _, _, _, rfl, rfl⟩, ⟨_, rfl, rfl⟩, ⟨rfl, rfl, rfl⟩, by decide +kernel, ⟨rfl, rfl, rfl, rfl⟩, fun _ _ _ _ _ _ _ _ _ _ _ _ => rfl, fun _ _ _ _ _ _ _ _ _ _ _ _ => rfl, by decide, by decide⟩
theorem tabT : tabOk LI errT = true := by decide +kernel
theorem ob_eqT (s : PySem.W.SharedT) : obT s = hkT.obs s.abs := obsCG_eq (HandSHeadRun.getT_eq s)
section
variable {K : PySem.W.Frag} {h : Heap} {mg : Str → Option Value} {base : Heap}
theorem T_of (X : K.In h) (G : h.Ns mainGlobals mg) (c : SaysC chkT fnT spT K) : Tx P0 K mg base [] := by
  have t := c.tru
  obtain ⟨com, t⟩ := ba t
  obtain ⟨com2, t⟩ := ba t
  obtain ⟨hB, t⟩ := ba t
  obtain ⟨hO, t⟩ := ba t
  obtain ⟨hS, t⟩ := ba t
  obtain ⟨hI, t⟩ := ba t
  obtain ⟨hM, t⟩ := ba t
  obtain ⟨hD, t⟩ := ba t
  obtain ⟨hN, t⟩ := ba t
  obtain ⟨hV, t⟩ := ba t
  obtain ⟨hF, t⟩ := ba t
  have hB := List.all_eq_true.mp hB
  have hO := List.all_eq_true.mp hO
  have hS := List.all_eq_true.mp hS
  have hI := List.all_eq_true.mp hI
  have hN := List.all_eq_true.mp hN
  have hV := List.all_eq_true.mp hV
  have hF := List.all_eq_true.mp hF
  obtain ⟨t, l_most⟩ := ba t
  obtain ⟨t, l_name⟩ := ba t
  obtain ⟨t, l_word⟩ := ba t
  obtain ⟨t, l_fault⟩ := ba t
  obtain ⟨t, l_number⟩ := ba t
  have l_at := t
  exact ⟨free_of X G (hB _ (List.mem_of_getElem? (i := 0) rfl)), free_of X G (hB _ (List.mem_of_getElem? (i := 1) rfl)), free_of X G (hB _ (List.mem_of_getElem? (i := 2) rfl)), free_of X G (hB _ (List.mem_of_getElem? (i := 3) rfl)), free_of X G (hB _ (List.mem_of_getElem? (i := 4) rfl)), free_of X G (hB _ (List.mem_of_getElem? (i := 5) rfl)), free_of X G (hB _ (List.mem_of_getElem? (i := 6) rfl)), free_of X G (hB _ (List.mem_of_getElem? (i := 7) rfl)), free_of X G (hB _ (List.mem_of_getElem? (i := 8) rfl)), glo_of X G (ba (hI _ (List.mem_of_getElem? (i := 0) rfl))).1, isF_by tabT hM hD (List.mem_of_getElem? (i := 0) rfl) (ba (hI _ (List.mem_of_getElem? (i := 0) rfl))).2, glo_of X G (ba (hI _ (List.mem_of_getElem? (i := 1) rfl))).1, isF_by tabT hM hD (List.mem_of_getElem? (i := 1) rfl) (ba (hI _ (List.mem_of_getElem? (i := 1) rfl))).2, glo_of X G (ba (hI _ (List.mem_of_getElem? (i := 2) rfl))).1, isF_by tabT hM hD (List.mem_of_getElem? (i := 2) rfl) (ba (hI _ (List.mem_of_getElem? (i := 2) rfl))).2, glo_of X G (ba (hI _ (List.mem_of_getElem? (i := 3) rfl))).1, isF_by tabT hM hD (List.mem_of_getElem? (i := 3) rfl) (ba (hI _ (List.mem_of_getElem? (i := 3) rfl))).2, glo_of X G (ba (hI _ (List.mem_of_getElem? (i := 4) rfl))).1, isF_by tabT hM hD (List.mem_of_getElem? (i := 4) rfl) (ba (hI _ (List.mem_of_getElem? (i := 4) rfl))).2, glo_of X G (ba (hI _ (List.mem_of_getElem? (i := 5) rfl))).1, isF_by tabT hM hD (List.mem_of_getElem? (i := 5) rfl) (ba (hI _ (List.mem_of_getElem? (i := 5) rfl))).2, glo_of X G (ba (hI _ (List.mem_of_getElem? (i := 6) rfl))).1, isF_by tabT hM hD (List.mem_of_getElem? (i := 6) rfl) (ba (hI _ (List.mem_of_getElem? (i := 6) rfl))).2, glo_of X G (ba (hI _ (List.mem_of_getElem? (i := 7) rfl))).1, isF_by tabT hM hD (List.mem_of_getElem? (i := 7) rfl) (ba (hI _ (List.mem_of_getElem? (i := 7) rfl))).2, glo_of X G (ba (hI _ (List.mem_of_getElem? (i := 8) rfl))).1, isF_by tabT hM hD (List.mem_of_getElem? (i := 8) rfl) (ba (hI _ (List.mem_of_getElem? (i := 8) rfl))).2, glo_of X G (ba (hI _ (List.mem_of_getElem? (i := 9) rfl))).1, isF_by tabT hM hD (List.mem_of_getElem? (i := 9) rfl) (ba (hI _ (List.mem_of_getElem? (i := 9) rfl))).2, glo_of X G (ba (hI _ (List.mem_of_getElem? (i := 10) rfl))).1, isF_by tabT hM hD (List.mem_of_getElem? (i := 10) rfl) (ba (hI _ (List.mem_of_getElem? (i := 10) rfl))).2, glo_of X G (ba (hI _ (List.mem_of_getElem? (i := 11) rfl))).1, isF_by tabT hM hD (List.mem_of_getElem? (i := 11) rfl) (ba (hI _ (List.mem_of_getElem? (i := 11) rfl))).2, glo_of X G (ba (hI _ (List.mem_of_getElem? (i := 12) rfl))).1, isF_by tabT hM hD (List.mem_of_getElem? (i := 12) rfl) (ba (hI _ (List.mem_of_getElem? (i := 12) rfl))).2, glo_of X G (ba (hI _ (List.mem_of_getElem? (i := 13) rfl))).1, isF_by tabT hM hD (List.mem_of_getElem? (i := 13) rfl) (ba (hI _ (List.mem_of_getElem? (i := 13) rfl))).2, glo_of X G (ba (hI _ (List.mem_of_getElem? (i := 14) rfl))).1, isF_by tabT hM hD (List.mem_of_getElem? (i := 14) rfl) (ba (hI _ (List.mem_of_getElem? (i := 14) rfl))).2, glo_of X G (ba (hI _ (List.mem_of_getElem? (i := 15) rfl))).1, isF_by tabT hM hD (List.mem_of_getElem? (i := 15) rfl) (ba (hI _ (List.mem_of_getElem? (i := 15) rfl))).2, glo_of X G (ba (hI _ (List.mem_of_getElem? (i := 16) rfl))).1, isF_by tabT hM hD (List.mem_of_getElem? (i := 16) rfl) (ba (hI _ (List.mem_of_getElem? (i := 16) rfl))).2, glo_of X G (ba (hI _ (List.mem_of_getElem? (i := 17) rfl))).1, isF_by tabT hM hD (List.mem_of_getElem? (i := 17) rfl) (ba (hI _ (List.mem_of_getElem? (i := 17) rfl))).2, glo_of X G (ba (hI _ (List.mem_of_getElem? (i := 18) rfl))).1, isF_by tabT hM hD (List.mem_of_getElem? (i := 18) rfl) (ba (hI _ (List.mem_of_getElem? (i := 18) rfl))).2, glo_of X G (ba (hI _ (List.mem_of_getElem? (i := 19) rfl))).1, isF_by tabT hM hD (List.mem_of_getElem? (i := 19) rfl) (ba (hI _ (List.mem_of_getElem? (i := 19) rfl))).2, glo_of X G (ba (hI _ (List.mem_of_getElem? (i := 20) rfl))).1, isF_by tabT hM hD (List.mem_of_getElem? (i := 20) rfl) (ba (hI _ (List.mem_of_getElem? (i := 20) rfl))).2, glo_of X G (ba (hI _ (List.mem_of_getElem? (i := 21) rfl))).1, isF_by tabT hM hD (List.mem_of_getElem? (i := 21) rfl) (ba (hI _ (List.mem_of_getElem? (i := 21) rfl))).2, glo_of X G (ba (hI _ (List.mem_of_getElem? (i := 22) rfl))).1, isF_by tabT hM hD (List.mem_of_getElem? (i := 22) rfl) (ba (hI _ (List.mem_of_getElem? (i := 22) rfl))).2, glo_of X G (ba (hI _ (List.mem_of_getElem? (i := 23) rfl))).1, isF_by tabT hM hD (List.mem_of_getElem? (i := 23) rfl) (ba (hI _ (List.mem_of_getElem? (i := 23) rfl))).2, glo_of X G (ba (hI _ (List.mem_of_getElem? (i := 24) rfl))).1, isF_by tabT hM hD (List.mem_of_getElem? (i := 24) rfl) (ba (hI _ (List.mem_of_getElem? (i := 24) rfl))).2, glo_of X G (ba (hI _ (List.mem_of_getElem? (i := 25) rfl))).1, isF_by tabT hM hD (List.mem_of_getElem? (i := 25) rfl) (ba (hI _ (List.mem_of_getElem? (i := 25) rfl))).2, glo_of X G (ba (hI _ (List.mem_of_getElem? (i := 26) rfl))).1, isF_by tabT hM hD (List.mem_of_getElem? (i := 26) rfl) (ba (hI _ (List.mem_of_getElem? (i := 26) rfl))).2, glo_of X G (ba (hI _ (List.mem_of_getElem? (i := 27) rfl))).1, isF_by tabT hM hD (List.mem_of_getElem? (i := 27) rfl) (ba (hI _ (List.mem_of_getElem? (i := 27) rfl))).2, glo_of X G (ba (hI _ (List.mem_of_getElem? (i := 28) rfl))).1, isF_by tabT hM hD (List.mem_of_getElem? (i := 28) rfl) (ba (hI _ (List.mem_of_getElem? (i := 28) rfl))).2, glo_of X G (ba (hI _ (List.mem_of_getElem? (i := 29) rfl))).1, isF_by tabT hM hD (List.mem_of_getElem? (i := 29) rfl) (ba (hI _ (List.mem_of_getElem? (i := 29) rfl))).2, glo_of X G (ba (hI _ (List.mem_of_getElem? (i := 30) rfl))).1, isF_by tabT hM hD (List.mem_of_getElem? (i := 30) rfl) (ba (hI _ (List.mem_of_getElem? (i := 30) rfl))).2, glo_of X G (ba (hI _ (List.mem_of_getElem? (i := 31) rfl))).1, isF_by tabT hM hD (List.mem_of_getElem? (i := 31) rfl) (ba (hI _ (List.mem_of_getElem? (i := 31) rfl))).2, glo_of X G (ba (hI _ (List.mem_of_getElem? (i := 32) rfl))).1, isF_by tabT hM hD (List.mem_of_getElem? (i := 32) rfl) (ba (hI _ (List.mem_of_getElem? (i := 32) rfl))).2, glo_of X G (ba (hI _ (List.mem_of_getElem? (i := 33) rfl))).1, isF_by tabT hM hD (List.mem_of_getElem? (i := 33) rfl) (ba (hI _ (List.mem_of_getElem? (i := 33) rfl))).2, glo_of X G (ba (hI _ (List.mem_of_getElem? (i := 34) rfl))).1, isF_by tabT hM hD (List.mem_of_getElem? (i := 34) rfl) (ba (hI _ (List.mem_of_getElem? (i := 34) rfl))).2, glo_of X G (ba (hI _ (List.mem_of_getElem? (i := 35) rfl))).1, isF_by tabT hM hD (List.mem_of_getElem? (i := 35) rfl) (ba (hI _ (List.mem_of_getElem? (i := 35) rfl))).2, glo_of X G (ba (hI _ (List.mem_of_getElem? (i := 36) rfl))).1, isF_by tabT hM hD (List.mem_of_getElem? (i := 36) rfl) (ba (hI _ (List.mem_of_getElem? (i := 36) rfl))).2, glo_of X G (ba (hI _ (List.mem_of_getElem? (i := 37) rfl))).1, isF_by tabT hM hD (List.mem_of_getElem? (i := 37) rfl) (ba (hI _ (List.mem_of_getElem? (i := 37) rfl))).2, glo_of X G (ba (hI _ (List.mem_of_getElem? (i := 38) rfl))).1, isF_by tabT hM hD (List.mem_of_getElem? (i := 38) rfl) (ba (hI _ (List.mem_of_getElem? (i := 38) rfl))).2, glo_of X G (ba (hI _ (List.mem_of_getElem? (i := 39) rfl))).1, isF_by tabT hM hD (List.mem_of_getElem? (i := 39) rfl) (ba (hI _ (List.mem_of_getElem? (i := 39) rfl))).2, glo_of X G (ba (hI _ (List.mem_of_getElem? (i := 40) rfl))).1, isF_by tabT hM hD (List.mem_of_getElem? (i := 40) rfl) (ba (hI _ (List.mem_of_getElem? (i := 40) rfl))).2, glo_of X G (ba (hI _ (List.mem_of_getElem? (i := 41) rfl))).1, isF_by tabT hM hD (List.mem_of_getElem? (i := 41) rfl) (ba (hI _ (List.mem_of_getElem? (i := 41) rfl))).2, glo_of X G (ba (hI _ (List.mem_of_getElem? (i := 42) rfl))).1, isF_by tabT hM hD (List.mem_of_getElem? (i := 42) rfl) (ba (hI _ (List.mem_of_getElem? (i := 42) rfl))).2, glo_of X G (ba (hI _ (List.mem_of_getElem? (i := 43) rfl))).1, isF_by tabT hM hD (List.mem_of_getElem? (i := 43) rfl) (ba (hI _ (List.mem_of_getElem? (i := 43) rfl))).2, glo_of X G (ba (hI _ (List.mem_of_getElem? (i := 44) rfl))).1, isF_by tabT hM hD (List.mem_of_getElem? (i := 44) rfl) (ba (hI _ (List.mem_of_getElem? (i := 44) rfl))).2, glo_of X G (ba (hI _ (List.mem_of_getElem? (i := 45) rfl))).1, isF_by tabT hM hD (List.mem_of_getElem? (i := 45) rfl) (ba (hI _ (List.mem_of_getElem? (i := 45) rfl))).2, glo_of X G (ba (hI _ (List.mem_of_getElem? (i := 46) rfl))).1, isF_by tabT hM hD (List.mem_of_getElem? (i := 46) rfl) (ba (hI _ (List.mem_of_getElem? (i := 46) rfl))).2, glo_of X G (ba (hI _ (List.mem_of_getElem? (i := 47) rfl))).1, isF_by tabT hM hD (List.mem_of_getElem? (i := 47) rfl) (ba (hI _ (List.mem_of_getElem? (i := 47) rfl))).2, glo_of X G (ba (hI _ (List.mem_of_getElem? (i := 48) rfl))).1, isF_by tabT hM hD (List.mem_of_getElem? (i := 48) rfl) (ba (hI _ (List.mem_of_getElem? (i := 48) rfl))).2, glo_of X G (ba (hI _ (List.mem_of_getElem? (i := 49) rfl))).1, isF_by tabT hM hD (List.mem_of_getElem? (i := 49) rfl) (ba (hI _ (List.mem_of_getElem? (i := 49) rfl))).2, glo_of X G (ba (hI _ (List.mem_of_getElem? (i := 50) rfl))).1, isF_by tabT hM hD (List.mem_of_getElem? (i := 50) rfl) (ba (hI _ (List.mem_of_getElem? (i := 50) rfl))).2, glo_of X G (ba (hI _ (List.mem_of_getElem? (i := 51) rfl))).1, isF_by tabT hM hD (List.mem_of_getElem? (i := 51) rfl) (ba (hI _ (List.mem_of_getElem? (i := 51) rfl))).2, glo_of X G (ba (hI _ (List.mem_of_getElem? (i := 52) rfl))).1, isF_by tabT hM hD (List.mem_of_getElem? (i := 52) rfl) (ba (hI _ (List.mem_of_getElem? (i := 52) rfl))).2, glo_of X G (ba (hI _ (List.mem_of_getElem? (i := 53) rfl))).1, isF_by tabT hM hD (List.mem_of_getElem? (i := 53) rfl) (ba (hI _ (List.mem_of_getElem? (i := 53) rfl))).2, glo_of X G (ba (hI _ (List.mem_of_getElem? (i := 54) rfl))).1, isF_by tabT hM hD (List.mem_of_getElem? (i := 54) rfl) (ba (hI _ (List.mem_of_getElem? (i := 54) rfl))).2, isF_of (hN _ (List.mem_of_getElem? (i := 0) rfl)), glo_of X G (ba (hI _ (List.mem_of_getElem? (i := 54) rfl))).1, of_decide_eq_true (ba (hV _ (List.mem_of_getElem? (i := 0) rfl))).2, ownF_of X G com (hO _ (List.mem_of_getElem? (i := 0) rfl)), ownF_of X G com (hO _ (List.mem_of_getElem? (i := 1) rfl)), ownF_of X G com (hO _ (List.mem_of_getElem? (i := 2) rfl)), ownF_of X G com (hO _ (List.mem_of_getElem? (i := 3) rfl)), ownF_of X G com (hO _ (List.mem_of_getElem? (i := 4) rfl)), ownF_of X G com (hO _ (List.mem_of_getElem? (i := 5) rfl)), ownF_of X G com (hO _ (List.mem_of_getElem? (i := 6) rfl)), ownF_of X G com (hO _ (List.mem_of_getElem? (i := 7) rfl)), ownF_of X G com (hO _ (List.mem_of_getElem? (i := 8) rfl)), ownF_of X G com (hO _ (List.mem_of_getElem? (i := 9) rfl)), ownF_of X G com (hO _ (List.mem_of_getElem? (i := 10) rfl)), ownF_of X G com (hO _ (List.mem_of_getElem? (i := 11) rfl)), ownF_of X G com (hO _ (List.mem_of_getElem? (i := 12) rfl)), ownF_of X G com (hO _ (List.mem_of_getElem? (i := 13) rfl)), ownF_of X G com (hO _ (List.mem_of_getElem? (i := 14) rfl)), ownF_of X G com (hO _ (List.mem_of_getElem? (i := 15) rfl)), ownF_of X G com (hO _ (List.mem_of_getElem? (i := 16) rfl)), ownF_of X G com (hO _ (List.mem_of_getElem? (i := 17) rfl)), ownF_of X G com (hO _ (List.mem_of_getElem? (i := 18) rfl)), ownF_of X G com (hO _ (List.mem_of_getElem? (i := 19) rfl)), ownF_of X G com (hO _ (List.mem_of_getElem? (i := 20) rfl)), supF_of (d := su_BadModules) X G com com2 (hS _ (List.mem_of_getElem? (i := 0) rfl)) (c.sup _ (List.mem_of_getElem? (i := 0) rfl)) sut_BadModules, ownF_of X G com (hO _ (List.mem_of_getElem? (i := 21) rfl)), ownF_of X G com (hO _ (List.mem_of_getElem? (i := 22) rfl)), supF_of (d := su_BadSigns) X G com com2 (hS _ (List.mem_of_getElem? (i := 1) rfl)) (c.sup _ (List.mem_of_getElem? (i := 1) rfl)) sut_BadSigns, ownF_of X G com (hO _ (List.mem_of_getElem? (i := 23) rfl)), ownF_of X G com (hO _ (List.mem_of_getElem? (i := 24) rfl)), supF_of (d := su_BadRow) X G com com2 (hS _ (List.mem_of_getElem? (i := 2) rfl)) (c.sup _ (List.mem_of_getElem? (i := 2) rfl)) sut_BadRow, ownF_of X G com (hO _ (List.mem_of_getElem? (i := 25) rfl)), ownF_of X G com (hO _ (List.mem_of_getElem? (i := 26) rfl)), ownF_of X G com (hO _ (List.mem_of_getElem? (i := 27) rfl)), ownF_of X G com (hO _ (List.mem_of_getElem? (i := 28) rfl)), ownF_of X G com (hO _ (List.mem_of_getElem? (i := 29) rfl)), ownF_of X G com (hO _ (List.mem_of_getElem? (i := 30) rfl)), ownF_of X G com (hO _ (List.mem_of_getElem? (i := 31) rfl)), ownF_of X G com (hO _ (List.mem_of_getElem? (i := 32) rfl)), ownF_of X G com (hO _ (List.mem_of_getElem? (i := 33) rfl)), ownF_of X G com (hO _ (List.mem_of_getElem? (i := 34) rfl)), supF_of (d := su_CannotDeal) X G com com2 (hS _ (List.mem_of_getElem? (i := 3) rfl)) (c.sup _ (List.mem_of_getElem? (i := 3) rfl)) sut_CannotDeal, supF_of (d := su_CannotChange) X G com com2 (hS _ (List.mem_of_getElem? (i := 4) rfl)) (c.sup _ (List.mem_of_getElem? (i := 4) rfl)) sut_CannotChange, supF_of (d := su_Broken) X G com com2 (hS _ (List.mem_of_getElem? (i := 5) rfl)) (c.sup _ (List.mem_of_getElem? (i := 5) rfl)) sut_Broken, ownF_of X G com (hO _ (List.mem_of_getElem? (i := 35) rfl)), ownF_of X G com (hO _ (List.mem_of_getElem? (i := 36) rfl)), ownF_of X G com (hO _ (List.mem_of_getElem? (i := 37) rfl)), ownF_of X G com (hO _ (List.mem_of_getElem? (i := 38) rfl)), ownF_of X G com (hO _ (List.mem_of_getElem? (i := 39) rfl)), ownF_of X G com (hO _ (List.mem_of_getElem? (i := 40) rfl)), supF_of (d := su_NoAskingText) X G com com2 (hS _ (List.mem_of_getElem? (i := 6) rfl)) (c.sup _ (List.mem_of_getElem? (i := 6) rfl)) sut_NoAskingText, supF_of (d := su_Wide) X G com com2 (hS _ (List.mem_of_getElem? (i := 7) rfl)) (c.sup _ (List.mem_of_getElem? (i := 7) rfl)) sut_Wide, supF_of (d := su_Undecided) X G com com2 (hS _ (List.mem_of_getElem? (i := 8) rfl)) (c.sup _ (List.mem_of_getElem? (i := 8) rfl)) sut_Undecided, supF_of (d := su_TooManyWays) X G com com2 (hS _ (List.mem_of_getElem? (i := 9) rfl)) (c.sup _ (List.mem_of_getElem? (i := 9) rfl)) sut_TooManyWays, ownF_of X G com (hO _ (List.mem_of_getElem? (i := 41) rfl)), ownF_of X G com (hO _ (List.mem_of_getElem? (i := 42) rfl)), ownF_of X G com (hO _ (List.mem_of_getElem? (i := 43) rfl)), ownF_of X G com (hO _ (List.mem_of_getElem? (i := 44) rfl)), fldF_of l_at, fldF_of l_number, fldF_of l_fault, fldF_of l_word, fldF_of l_name, fldF_of l_most, (have_of X G c 1 rfl (hF _ (List.mem_of_getElem? (i := 1) rfl))).have, (have_of X G c 2 rfl (hF _ (List.mem_of_getElem? (i := 2) rfl))).have, (have_of X G c 3 rfl (hF _ (List.mem_of_getElem? (i := 3) rfl))).have, (have_of X G c 4 rfl (hF _ (List.mem_of_getElem? (i := 4) rfl))).have, (have_of X G c 5 rfl (hF _ (List.mem_of_getElem? (i := 5) rfl))).have⟩
end
end DS
open PySem PySem.W PySem.Calls PyProof.Rows
set_option maxHeartbeats 0 in
theorem PySem.Challenge.cw_whyandwhynot_k00_errors_apart_holds : PySem.Challenge.rw_whyandwhynot_k00_errors_apart.Holds := by
  w_on; o_law
  refine HandSHeadRun.head_any (r := OpenLaw.row PySem.Challenge.rw_whyandwhynot_k00_errors_apart) (q := view (OpenLaw.row PySem.Challenge.rw_whyandwhynot_k00_errors_apart).prog [62]) (H := DS.hkT) (ob := DS.obT) (M := 14000) (loose := DS.namesT) (d := HandSHeadRun.topDef (OpenLaw.row PySem.Challenge.rw_whyandwhynot_k00_errors_apart).prog 62) (kwd := []) DS.ob_eqT
    (by kernel_rfl) (fun s => by kernel_rfl) DS.runT (by kernel_rfl) (by kernel_rfl) (by kernel_rfl) (by rfl) (by first | assumption | decide +kernel) (by decide +kernel) ⟨rfl, rfl, rfl, rfl, rfl, by decide +kernel⟩ ?hw ?hc
  case hw => w_witness2
  case hc =>
    refine DS.walk_ofGH (l := PySem.Challenge.rw_whyandwhynot_k00_errors_apart) (k := 4) (Ok := DS.SaysC DS.chkT DS.fnT DS.spT) rfl (by kernel_rfl) ⟨rfl, by decide, by decide⟩ (fun w h Y => Y) ?F
    intro w mg fa h K KX G hmg0 c
    have hmg : mg ("law" : PySem.Str) = some (.ref fa) := by
      have e : (HandSHeadRun.topDef (OpenLaw.row PySem.Challenge.rw_whyandwhynot_k00_errors_apart).prog 62).name = ("law" : PySem.Str) := by kernel_rfl
      rw [← e]
      exact hmg0
    have hL : DS.HaveC K mg "law" DS.st_law := DS.have_of KX G c 0 rfl (List.all_eq_true.mp (DS.ba (DS.ba (DS.ba (DS.ba (DS.ba (DS.ba (DS.ba (DS.ba (DS.ba (DS.ba (DS.ba c.tru).2).2).2).2).2).2).2).2).2).2).1 _ (List.mem_of_getElem? (i := 0) rfl))
    obtain ⟨f, fd, hn, hm, F⟩ := hL.ex
    have e := hmg.symm.trans hm
    cases e
    refine ⟨fd, fun s u => ?_, fun base hb1 hb2 => ?_⟩
    · obtain ⟨oc, od, kV, doc, pm, an, cdv, ct, osl, rfl, lk, hcd⟩ := F.ex
      exact .of_eq rfl
    · exact DS.ok_law (DS.T_of KX G c) hn F

