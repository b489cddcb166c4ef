import PyProof.Rows.All
import Wide.All
import OpenK.AllK
import Wide.FinOn
import HandS.ForMost
import HandS.Exc
import HandS.ExcOwn
import HandS.WordsExc
import HandS.Defaults
import HandS.Head0
import HandS.Head1
import HandS.Head2
import HandS.ClsMeth
import HandS.HeadHook3
import HandS.HeadEnd
import HandS.Ends
import HandS.HeadHook1
import HandS.Lambda
import HandS.TupAny
import HandS.Style
import HandS.Walk
import HandS.NoneIn
import HandS.DictComp
import KE.GoesNew
import KE.GoesMore
import KE.GoesEnum
import KE.GoesZip
import HandS.Zip
import HandS.Deep
import KE.SortData
import KE.DataMinMax
import KE.KTupSum
import HandS.Conv
import HandS.Words
import HandS.HeadHook2
import HandS.Nested
import KE.KSuper
import HandS.IsInst
import HandS.Star
import PyProof.Rows.CountFlat
import PyProof.Rows.StrCountLaw
import HandS.Property
import HandS.TupLe
import HandS.TupMul
import HandS.TryMany
import HandS.EndTab
import HandS.More
import PySem.Challenge.RW_rodturns_k01_rules_are_made_of_rods
set_option Elab.async false
set_option linter.all false
set_option maxHeartbeats 4000000
set_option maxRecDepth 100000
namespace Rz
open PySem PySem.Spec PyProof.Rows L2 ClX
structure DefC where
  at_ : Str × Option Str
  name : Str
  qual : Str
  params : Arguments
  body : List Stmt
  scope : Scope
  cls : Str
abbrev FnY : Type := Option (Str × Str × Arguments × FuncBody × Scope × Addr × List Str × Value × Addr)
def fnY (K : PySem.W.Frag) (p : Str × Option Str) : FnY := match K.lookup (He.fAd K p) with
  | some ⟨_, _, .func g, _⟩ => some (g.name, g.qualname, g.params, g.body, g.scope, g.globals, g.closure.map (·.1), g.defaults, g.builtins)
  | _ => none
def DefC.val (d : DefC) : FnY := some (d.name, d.qual, d.params, .stmts d.body, d.scope, mainGlobals, ["__class__"], .none, builtinsNs)
def clCell (K : PySem.W.Frag) (D : Addr) : List (Str × Addr) → Bool
  | [(_, cc)] => (match K.lookup cc with
    | some ⟨_, _, .cell (some (.ref d)), _⟩ => decide (d = D)
    | _ => false)
  | _ => false
def codeAt (K : PySem.W.Frag) (fl : Str) : Value → Bool
  | .ref cda => (match K.lookup cda with
    | some ⟨_, _, .fields vs, _⟩ => (match (vs[2]? : Option Value) with
      | some (.str y _) => decide (y = fl)
      | _ => false)
    | _ => false)
  | _ => false
def DefC.ok (fl : Str) (K : PySem.W.Frag) (d : DefC) : Bool := PySem.W.keepIn K (.ref (He.fAd K d.at_)) && (PySem.W.fnIn K (He.fAd K d.at_) && (PySem.W.isFn K (.ref (He.fAd K d.at_)) && ((PySem.W.clsIn K (He.ga K d.cls)).isSome && (match K.lookup (He.fAd K d.at_) with
  | some ⟨_, _, .func g, _⟩ => PySem.W.codeIn K g.code d.qual && (clCell K (He.ga K d.cls) g.closure && codeAt K fl g.code)
  | _ => false))))
def wfA (C m : Str) (kind : String) (K : PySem.W.Frag) : Addr := match PySem.W.findIn K (.ref (He.ga K C)) m with
  | some (some (.ref p)) => (match PySem.W.recIn K p kind with
    | some (.ref g :: _) => g
    | _ => 0)
  | _ => 0
structure DefW where
  ad : PySem.W.Frag → Addr
  name : Str
  qual : Str
  params : Arguments
  body : List Stmt
  scope : Scope
def fnZ (K : PySem.W.Frag) (f : Addr) : FnY := match K.lookup f with
  | some ⟨_, _, .func g, _⟩ => some (g.name, g.qualname, g.params, g.body, g.scope, g.globals, g.closure.map (·.1), g.defaults, g.builtins)
  | _ => none
def DefW.val (d : DefW) : FnY := some (d.name, d.qual, d.params, .stmts d.body, d.scope, mainGlobals, [], .none, builtinsNs)
def DefW.ok (K : PySem.W.Frag) (d : DefW) : Bool := PySem.W.keepIn K (.ref (d.ad K)) && (PySem.W.fnIn K (d.ad K) && (PySem.W.isFn K (.ref (d.ad K)) && (match K.lookup (d.ad K) with
  | some ⟨_, _, .func g, _⟩ => PySem.W.codeIn K g.code d.qual
  | _ => false)))
structure Hd where
  fa : List He.Fa
  fn : List He.DefD
  fc : List DefC
  fw : List DefW
  ch : List (PySem.W.Frag → Bool)
  fl : Str
def seenB (m a : Nat) : Bool := Nat.beq (Nat.land (Nat.shiftRight m a) 1) 1
def withN {α : Type} (f : Nat → α) : Nat → α
  | 0 => f 0
  | k + 1 => f (Nat.succ k)
def pickX (k : Nat → List Addr → List Addr) : List Addr → Nat → List Addr → List Addr
  | [], m, acc => k m acc
  | a :: r, m, acc => match seenB m a with
    | true => pickX k r m acc
    | false => withN (fun m2 => pickX k r m2 (a :: acc)) (Nat.lor m (Nat.shiftLeft 1 a))
def kidsX (g : Addr → Option Obj) (k : Nat → List Addr → List Addr) : List Addr → Nat → List Addr → List Addr
  | [], m, acc => k m acc
  | a :: r, m, acc => match g a with
    | some o => pickX (fun m acc => kidsX g k r m acc) (He.refsD o) m acc
    | none => kidsX g k r m acc
def bfsX (g : Addr → Option Obj) : Nat → List Addr → Nat → List Addr
  | 0, fr, _ => fr
  | n + 1, fr, m => fr ++ kidsX g (fun m acc => bfsX g n acc m) fr m []
def asX (g : Addr → Option Obj) (n : Nat) : List Addr := pickX (fun m acc => bfsX g n acc m) [mainGlobals, cStatics] 0 []
abbrev AlX : Type := He.AlD × Bool × List FnY × List FnY
def obsX (h : Hd) (K : PySem.W.Frag) : AlX := (He.obsD h.fa h.fn K, (h.fc.all fun d => d.ok h.fl K) && ((h.fw.all fun d => d.ok K) && h.ch.all fun t => t K), h.fc.map fun d => fnY K d.at_, h.fw.map fun d => fnZ K (d.ad K))
def valX (h : Hd) : AlX := (He.valD h.fn, true, h.fc.map DefC.val, h.fw.map DefW.val)
def SaysX (h : Hd) (K : PySem.W.Frag) : Prop := obsX h K = valX h
def obsXG (n : Nat) (h : Hd) (g : Addr → Option Obj) : AlX := obsX h (He.frG g (sysModules :: asX g n))
def hookX (n : Nat) (h : Hd) : PySem.W.Hook where
  α := AlX
  obs := fun s => obsXG n h s.heap.get?
  val := fun _ => valX h
  says := fun _ hp => ∃ K : PySem.W.Frag, K.In hp ∧ SaysX h K
  of := fun _ _ e => ⟨_, He.frG_in, e⟩
  keeps := fun _ _ _ z k => by
    obtain ⟨K, hK, c⟩ := z
    exact ⟨K, PySem.W.Frag.In.keeps hK k, c⟩
theorem obsXG_eq {n : Nat} {h : Hd} {g : Addr → Option Obj} {s : Shared} (e : ∀ a, g a = s.heap.get? a) : obsXG n h g = (hookX n h).obs s := by
  rw [funext e] <;> rfl
def insB (K : PySem.W.Frag) (x : Str) : Bool := He.Fa.ok K (.cls x) && (He.eqO (PySem.W.findIn K (.ref (He.ga K x)) "__class__") (some (some (.builtin "object.__class__"))) && (He.eqO (PySem.W.specialIn K (.builtin "object.__class__") "__get__") (some (some (.builtin "getset_descriptor.__get__"))) &&
  (decide (PySem.W.takesIn K (.builtin "object.__class__") = some true) && decide (PySem.W.mroIn K (He.ga K x) (.type "object") = some true))))
def kitB2 (K : PySem.W.Frag) (a b : Value) (r : Bool) : Bool := decide (PySem.W.kitOne K a b = some r)
def readB (K : PySem.W.Frag) (x : Str) : Bool := PySem.W.readsIn K (He.ga K x) (.type "type") && He.eqO (PySem.W.specialIn K (.ref (He.ga K x)) "__getattribute__") (some (some (.builtin "type.__getattribute__")))
def cvalB (K : PySem.W.Frag) (x f : Str) (v : V) : Bool := match PySem.W.findCls K (.ref (He.ga K x)) (.type "type") f with
  | some (.val u) => He.relB v u
  | _ => false
def statB (K : PySem.W.Frag) (x m : Str) (g : Addr) : Bool := match PySem.W.findCls K (.ref (He.ga K x)) (.type "type") m with
  | some (.get (.builtin b) (.ref p) .none (.ref C)) => decide (b = "staticmethod.__get__") && (decide (C = He.ga K x) && (match PySem.W.recIn K p "staticmethod" with
    | some (.ref h :: _) => decide (h = g)
    | _ => false))
  | _ => false
def cmetB (K : PySem.W.Frag) (x m : Str) (g : Addr) : Bool := match PySem.W.findCls K (.ref (He.ga K x)) (.type "type") m with
  | some (.get (.builtin b) (.ref p) .none (.ref C)) => decide (b = "classmethod.__get__") && (decide (C = He.ga K x) && ((match PySem.W.recIn K p "classmethod" with
    | some (.ref h :: _) => decide (h = g)
    | _ => false) && PySem.W.fnIn K g))
  | _ => false
def tyNames : List String := ["NoneType", "bool", "int", "str", "tuple", "list", "dict"]
def kwdAt (f : Str × Option Str) (x : Str) (K : PySem.W.Frag) : Addr := match K.lookup (He.fAd K f) with
  | some ⟨_, _, .func fd, _⟩ => (match fd.kwdefaults with
    | .ref D => (match PySem.W.nsIn K D x with
      | some (some (.ref a)) => a
      | _ => 0)
    | _ => 0)
  | _ => 0
def tup0B (K : PySem.W.Frag) (a : Addr) : Bool := match K.lookup a with
  | some ⟨.type c, _, .seq its _, _⟩ => decide (c = "tuple") && its.toList.isEmpty
  | _ => false
end Rz
namespace Rz
open PySem PySem.Spec PyProof.Rows L2
def propB (K : PySem.W.Frag) (x f : Str) (g : Addr) : Bool := match PySem.W.findIn K (.ref (He.ga K x)) f with
  | some (some (.ref p)) => He.eqO (PySem.W.specialIn K (.ref p) "__get__") (some (some (.builtin "property.__get__"))) && (decide (PySem.W.takesIn K (.ref p) = some true) && (match PySem.W.recIn K p "property" with
    | some (.ref h :: _) => decide (h = g)
    | _ => false))
  | _ => false
end Rz
namespace Rz
open PySem PySem.Spec PyProof.Rows L2
abbrev veL : List Value := [.type "ValueError", .type "Exception", .type "BaseException", .type "object"]
def excB (K : PySem.W.Frag) (x : Str) : Bool :=
  PySem.W.excIn K (He.ga K x) veL "ValueError.__new__" && PySem.W.keepIn K (.ref (He.ga K x)) && decide (PySem.W.subIn K (.ref (He.ga K x)) (.type "BaseException") = some true) && decide (PySem.W.typeIn K (.ref (He.ga K x)) = some (.type "type"))
end Rz
namespace Rz
open PySem PySem.Spec PyProof.Rows L2
def lamDefs : List Str := ["_law_is_right", "_law_is_full", "_law_long", "law", "_law_calls", "_law_of_rule", "_law_of_case", "_law_of_first", "_law_of_both", "_law_of_joining", "_law_of_idle", "_law_are_rules_refused", "_law_is_refused", "_law_call", "_law_words"]
def codA (K : PySem.W.Frag) (x : Str) : Addr := match K.lookup (He.ga K x) with
  | some ⟨_, _, .func fd, _⟩ => (match fd.code with
    | .ref c => c
    | _ => 0)
  | _ => 0
def tabA (K : PySem.W.Frag) (x : Str) : Addr := match K.lookup (codA K x) with
  | some ⟨_, _, .fields vs, _⟩ => (match (vs[11]? : Option Value) with
    | some (.ref P) => P
    | _ => 0)
  | _ => 0
def lamB (K : PySem.W.Frag) (x : Str) : Bool := match K.lookup (codA K x) with
  | some ⟨_, _, .fields vs, _⟩ => (match (vs[11]? : Option Value) with
    | some (.ref P) => (K.lookup P).isNone
    | _ => false)
  | _ => false
def codB (K : PySem.W.Frag) (x : Str) : Bool := match K.lookup (He.ga K x) with
  | some ⟨_, _, .func fd, _⟩ => (match fd.code with
    | .ref _ => true
    | _ => false)
  | _ => false
def lamOnly (K : PySem.W.Frag) (l : List Str) : Bool := lamDefs.all fun x => lamB K x == l.contains x
def lamInj (K : PySem.W.Frag) (l : List Str) : Bool := l.all fun x => l.all fun y => (tabA K x != tabA K y) || x == y
def lamAll (K : PySem.W.Frag) (l : List Str) : Bool := l.all fun x => codB K x && lamB K x
def asL (g : Addr → Option Obj) (n : Nat) : List Addr := (sysModules :: asX g n).filter fun a => match g a with
  | some ⟨.none, _, .fields _, _⟩ => false
  | _ => true
def obsLG (n : Nat) (h : Hd) (g : Addr → Option Obj) : AlX := obsX h (He.frG g (asL g n))
def hookL (n : Nat) (h : Hd) : PySem.W.Hook where
  α := AlX
  obs := fun s => obsLG n h s.heap.get?
  val := fun _ => valX h
  says := fun _ hp => ∃ K : PySem.W.Frag, K.In hp ∧ SaysX h K
  of := fun _ _ e => ⟨_, He.frG_in, e⟩
  keeps := fun _ _ _ z k => by
    obtain ⟨K, hK, c⟩ := z
    exact ⟨K, PySem.W.Frag.In.keeps hK k, c⟩
theorem obsLG_eq {n : Nat} {h : Hd} {g : Addr → Option Obj} {s : Shared} (e : ∀ a, g a = s.heap.get? a) : obsLG n h g = (hookL n h).obs s := by
  rw [funext e] <;> rfl
end Rz
namespace Rz
open PySem PySem.Spec PyProof.Rows L2
def sysB (K : PySem.W.Frag) : Bool := match K.lookup sysModules with
  | some ⟨.type c, _, _, _⟩ => decide (c = "dict")
  | _ => false
end Rz
namespace Rz
open PySem PySem.Spec PyProof.Rows L2
def eqoB (K : PySem.W.Frag) (x : String) : Bool := decide (PySem.W.findIn K (.ref (He.ga K x)) "__eq__" = some (some (.builtin "object.__eq__"))) && decide (PySem.W.mroIn K (He.ga K x) (.type "object") = some true)
end Rz
namespace Rz
open PySem PySem.Spec PyProof.Rows L2 NdefX ClX
def top (i : Nat) : Stmt := PySem.Challenge.pw_rodturns_k01_rules_are_made_of_rods.main.body.getD i (.Pass ⟨0, 0, 0, 0⟩)
def clsBody : Stmt → List Stmt
  | .ClassDef _ _ _ b _ _ _ _ _ _ _ => b
  | _ => []
def mem (i j : Nat) : Stmt := (clsBody (top i)).getD j (.Pass ⟨0, 0, 0, 0⟩)
def d__law_is_equal : He.DefD := ⟨("_law_is_equal", none), "_law_is_equal", "_law_is_equal", defArgs (top 18), defBody (top 18), defScope (top 18), [], []⟩
def d_Rule_options : He.DefD := ⟨("Rule", some "options"), "options", "Rule.options", defArgs (mem 7 7), defBody (mem 7 7), defScope (mem 7 7), [], []⟩
def d__law_is_length : He.DefD := ⟨("_law_is_length", none), "_law_is_length", "_law_is_length", defArgs (top 22), defBody (top 22), defScope (top 22), [], []⟩
def d__law_outcome : He.DefD := ⟨("_law_outcome", none), "_law_outcome", "_law_outcome", defArgs (top 20), defBody (top 20), defScope (top 20), [], []⟩
def d_is_integer : He.DefD := ⟨("is_integer", none), "is_integer", "is_integer", defArgs (top 6), defBody (top 6), defScope (top 6), [], []⟩
def d_Rule___init__ : He.DefD := ⟨("Rule", some "__init__"), "__init__", "Rule.__init__", defArgs (mem 7 2), defBody (mem 7 2), defScope (mem 7 2), [], []⟩
def d__law_rule : He.DefD := ⟨("_law_rule", none), "_law_rule", "_law_rule", defArgs (top 23), defBody (top 23), defScope (top 23), [], []⟩
def d__law_is_right : He.DefD := ⟨("_law_is_right", none), "_law_is_right", "_law_is_right", defArgs (top 24), defBody (top 24), defScope (top 24), [], []⟩
def d__law_draw : He.DefD := ⟨("_law_draw", none), "_law_draw", "_law_draw", defArgs (top 16), defBody (top 16), defScope (top 16), [], []⟩
def d__law_choose : He.DefD := ⟨("_law_choose", none), "_law_choose", "_law_choose", defArgs (top 17), defBody (top 17), defScope (top 17), [], []⟩
def d__law_odd : He.DefD := ⟨("_law_odd", none), "_law_odd", "_law_odd", defArgs (top 21), defBody (top 21), defScope (top 21), [], []⟩
def d__law_rods : He.DefD := ⟨("_law_rods", none), "_law_rods", "_law_rods", defArgs (top 19), defBody (top 19), defScope (top 19), [], []⟩
def d__law_too_many : He.DefD := ⟨("_law_too_many", none), "_law_too_many", "_law_too_many", defArgs (top 25), defBody (top 25), defScope (top 25), [], []⟩
def d__law_is_full : He.DefD := ⟨("_law_is_full", none), "_law_is_full", "_law_is_full", defArgs (top 26), defBody (top 26), defScope (top 26), [], []⟩
def d__law_source : He.DefD := ⟨("_law_source", none), "_law_source", "_law_source", defArgs (top 15), defBody (top 15), defScope (top 15), [], []⟩
def d__law_cell : He.DefD := ⟨("_law_cell", none), "_law_cell", "_law_cell", defArgs (top 14), defBody (top 14), defScope (top 14), [], []⟩
def d_law : He.DefD := ⟨("law", none), "law", "law", defArgs (top 27), defBody (top 27), defScope (top 27), [], []⟩
def e_Aimed_options : DefC := ⟨("Aimed", some "options"), "options", "Aimed.options", defArgs (mem 9 1), defBody (mem 9 1), defScope (mem 9 1), "Aimed"⟩
def e_Held_options : DefC := ⟨("Held", some "options"), "options", "Held.options", defArgs (mem 8 1), defBody (mem 8 1), defScope (mem 8 1), "Held"⟩
def w_Rule_total : DefW := ⟨wfA "Rule" "total" "property", "total", "Rule.total", defArgs (mem 7 4), defBody (mem 7 4), defScope (mem 7 4)⟩
def w_Rule_rods : DefW := ⟨wfA "Rule" "rods" "property", "rods", "Rule.rods", defArgs (mem 7 3), defBody (mem 7 3), defScope (mem 7 3)⟩
def w_Rule_is_rod : DefW := ⟨wfA "Rule" "is_rod" "staticmethod", "is_rod", "Rule.is_rod", defArgs (mem 7 5), defBody (mem 7 5), defScope (mem 7 5)⟩
def lamL : List PySem.Str := ["_law_is_right", "_law_is_full", "law"]
def hsOf : List Stmt → List ExceptHandler
  | .Try _ hs _ _ _ :: _ => hs
  | _ => []
def hd : Hd where
  fa := [.free "repr", .glo "_law_is_equal", .free "sum", .cls "Rule", .noat "Rule" "lengths", .cls "Held", .noat "Held" "lengths", .cls "Aimed", .noat "Aimed" "lengths", .cls "Bound", .noat "Bound" "lengths", .free "list", .free "isinstance", .glo "Held", .glo "Aimed", .noat "Rule" "folded", .noat "Held" "folded", .noat "Aimed" "folded", .noat "Bound" "folded", .noat "Rule" "straight", .noat "Held" "straight", .noat "Aimed" "straight", .noat "Bound" "straight", .noat "Rule" "left", .noat "Held" "left", .noat "Aimed" "left", .noat "Bound" "left", .noat "Rule" "right", .noat "Held" "right", .noat "Aimed" "right", .noat "Bound" "right", .meth "Rule" "options", .meth "Held" "options", .meth "Aimed" "options", .meth "Bound" "options", .glo "Rule", .free "int", .free "bool", .glo "_law_is_length", .glo "RodsError", .glo "_law_outcome", .glo "is_integer", .free "len", .mkr "Rule", .glo "_law_rule", .glo "_law_is_right", .free "min", .free "max", .free "range", .glo "_law_draw", .glo "_law_choose", .glo "_law_odd", .glo "_law_rods", .glo "_law_too_many", .glo "_law_is_full", .glo "_law_source", .glo "_law_cell", .glo "Bound", .glo "FoldError", .glo "law", .free "super"]
  fn := [d__law_is_equal, d_Rule_options, d__law_is_length, d__law_outcome, d_is_integer, d_Rule___init__, d__law_rule, d__law_is_right, d__law_draw, d__law_choose, d__law_odd, d__law_rods, d__law_too_many, d__law_is_full, d__law_source, d__law_cell, d_law]
  fc := [e_Aimed_options, e_Held_options]
  fw := [w_Rule_total, w_Rule_rods, w_Rule_is_rod]
  ch := [fun K => sysB K,
  fun K => propB K "Rule" "total" (wfA "Rule" "total" "property" K),
  fun K => propB K "Held" "total" (wfA "Rule" "total" "property" K),
  fun K => propB K "Aimed" "total" (wfA "Rule" "total" "property" K),
  fun K => propB K "Bound" "total" (wfA "Rule" "total" "property" K),
  fun K => propB K "Rule" "rods" (wfA "Rule" "rods" "property" K),
  fun K => propB K "Held" "rods" (wfA "Rule" "rods" "property" K),
  fun K => propB K "Aimed" "rods" (wfA "Rule" "rods" "property" K),
  fun K => propB K "Bound" "rods" (wfA "Rule" "rods" "property" K),
  fun K => eqoB K "Rule",
  fun K => PySem.W.fnIn K (He.fAd K ("Rule", some "options")),
  fun K => PySem.W.isFn K (.ref (He.fAd K ("Rule", some "options"))),
  fun K => decide (PySem.W.mroIn K (He.ga K "Aimed") (.ref (He.ga K "Aimed")) = some true),
  fun K => He.eqO (PySem.W.ks_superIn K (He.ga K "Aimed") (He.ga K "Aimed") "options") (some (some (.ref (He.fAd K ("Rule", some "options"))))),
  fun K => decide (PySem.W.mroIn K (He.ga K "Bound") (.ref (He.ga K "Aimed")) = some true),
  fun K => He.eqO (PySem.W.ks_superIn K (He.ga K "Bound") (He.ga K "Aimed") "options") (some (some (.ref (He.fAd K ("Rule", some "options"))))),
  fun K => decide (PySem.W.mroIn K (He.ga K "Held") (.ref (He.ga K "Held")) = some true),
  fun K => He.eqO (PySem.W.ks_superIn K (He.ga K "Held") (He.ga K "Held") "options") (some (some (.ref (He.fAd K ("Rule", some "options"))))),
  fun K => decide (PySem.W.mroIn K (He.ga K "Bound") (.ref (He.ga K "Held")) = some true),
  fun K => He.eqO (PySem.W.ks_superIn K (He.ga K "Bound") (He.ga K "Held") "options") (some (some (.ref (He.fAd K ("Aimed", some "options"))))),
  fun K => decide (He.ma K (He.ga K "Rule") "options" = (He.fAd K ("Rule", some "options"))),
  fun K => decide (He.ma K (He.ga K "Held") "options" = (He.fAd K ("Held", some "options"))),
  fun K => decide (He.ma K (He.ga K "Aimed") "options" = (He.fAd K ("Aimed", some "options"))),
  fun K => decide (He.ma K (He.ga K "Bound") "options" = (He.fAd K ("Held", some "options"))),
  fun K => decide (PySem.W.exmOne K (.ref (He.ga K "RodsError")) (.ref (He.ga K "RodsError")) = some true),
  fun K => decide (PySem.W.exmOne K (.ref (He.ga K "FoldError")) (.ref (He.ga K "RodsError")) = some false),
  fun K => decide (PySem.W.exmOne K (.ref (He.ga K "LockError")) (.ref (He.ga K "RodsError")) = some false),
  fun K => readB K "Rule",
  fun K => cvalB K "Rule" "MOST_LENGTH" (.int 40),
  fun K => statB K "Rule" "is_rod" (wfA "Rule" "is_rod" "staticmethod" K),
  fun K => excB K "RodsError",
  fun K => cvalB K "Rule" "MOST_RODS" (.int 12),
  fun K => decide (He.ma K (He.ga K "Rule") "__init__" = (He.fAd K ("Rule", some "__init__"))),
  fun K => lamB K "_law_is_right",
  fun K => lamB K "_law_is_full",
  fun K => readB K "Bound",
  fun K => cvalB K "Bound" "MOST_LENGTH" (.int 40),
  fun K => readB K "Aimed",
  fun K => cvalB K "Aimed" "MOST_LENGTH" (.int 40),
  fun K => readB K "Held",
  fun K => cvalB K "Held" "MOST_RODS" (.int 12),
  fun K => decide (PySem.W.exmOne K (.ref (He.ga K "FoldError")) (.ref (He.ga K "FoldError")) = some true),
  fun K => decide (PySem.W.exmOne K (.ref (He.ga K "RodsError")) (.ref (He.ga K "FoldError")) = some true),
  fun K => decide (PySem.W.exmOne K (.ref (He.ga K "LockError")) (.ref (He.ga K "FoldError")) = some true),
  fun K => tyNames.all fun t => kitB2 K (.type t) (.ref (He.ga K "Aimed")) false,
  fun K => insB K "Aimed",
  fun K => kitB2 K (.ref (He.ga K "Aimed")) (.ref (He.ga K "Aimed")) true,
  fun K => insB K "Bound",
  fun K => kitB2 K (.ref (He.ga K "Bound")) (.ref (He.ga K "Aimed")) true,
  fun K => insB K "Rule",
  fun K => kitB2 K (.ref (He.ga K "Rule")) (.ref (He.ga K "Aimed")) false,
  fun K => tyNames.all fun t => kitB2 K (.type t) (.ref (He.ga K "Held")) false,
  fun K => insB K "Held",
  fun K => kitB2 K (.ref (He.ga K "Held")) (.ref (He.ga K "Held")) true,
  fun K => kitB2 K (.ref (He.ga K "Bound")) (.ref (He.ga K "Held")) true,
  fun K => kitB2 K (.ref (He.ga K "Rule")) (.ref (He.ga K "Held")) false,
  fun K => tyNames.all fun t => kitB2 K (.type t) (.ref (He.ga K "Rule")) false,
  fun K => kitB2 K (.ref (He.ga K "Rule")) (.ref (He.ga K "Rule")) true,
  fun K => kitB2 K (.ref (He.ga K "Held")) (.ref (He.ga K "Rule")) true,
  fun K => kitB2 K (.ref (He.ga K "Aimed")) (.ref (He.ga K "Rule")) true,
  fun K => kitB2 K (.ref (He.ga K "Bound")) (.ref (He.ga K "Rule")) true,
  fun K => kitB2 K (.ref (He.ga K "Rule")) (.type "bool") false,
  fun K => kitB2 K (.ref (He.ga K "Rule")) (.type "int") false,
  fun K => lamOnly K lamL,
  fun K => lamInj K lamL,
  fun K => lamAll K lamL,
  fun K => He.eqO (PySem.W.nsIn K cStatics "thirdparty.any") (some none)]
  fl := PySem.Challenge.pw_rodturns_k01_rules_are_made_of_rods.main.file
end Rz
namespace Rz
open PySem PySem.Spec PyProof.Rows L2 NdefX ClX
abbrev R0 : PySem.W.OpenRow := PySem.W.OpenLaw.row PySem.Challenge.rw_rodturns_k01_rules_are_made_of_rods
abbrev hk : PySem.W.Hook := hookL 5 hd
def ob (s : PySem.W.SharedT) : AlX := obsLG 5 hd (HandSHeadRun.getT s)
theorem ob_eq (s : PySem.W.SharedT) : ob s = hk.obs s.abs := obsLG_eq (HandSHeadRun.getT_eq s)
def loose : List PySem.Str := (["_wall", "__name__", "FoldError", "RodsError", "LockError", "is_integer", "Rule", "Held", "Aimed", "Bound", "ordered", "need_apart", "_law_cell", "_law_source", "_law_draw", "_law_choose", "_law_is_equal", "_law_rods", "_law_outcome", "_law_odd", "_law_is_length", "_law_rule", "_law_too_many"] : List PySem.Str)
theorem run (w : World) : HandSHeadRun.RunEq R0 (PySem.W.view R0.prog [24, 26, 27]) hk ob 14000 loose w := by
  intro os
  kernel_rfl
end Rz
namespace Rz
open PySem PySem.Spec PyProof.Rows L2
inductive DK where
  | int (i : Int) | str (s : List Nat)
  deriving DecidableEq
inductive D where
  | non | bl (b : Bool) | int (i : Int) | str (s : List Nat)
  | tup (xs : List D) | lst (xs : List D) | dct (kvs : List (DK × D))
  | ins (c : Nat) (fs : List (Str × D))
  | scr (xs : List Int)
inductive Sl where
  | un | fz (d : D) | ml (xs : List D) | md (kvs : List (DK × D)) | mi (c : Nat) (fs : List (Str × D))
abbrev Env := List Sl
structure Ex where
  c : Nat
  fs : List (Str × D)
inductive Out (α : Type) where
  | ok (a : α) (s : Env) | exc (x : Ex) (s : Env) | bad
abbrev M (α : Type) := Env → Out α
def Sl.toD : Sl → D
  | .un => .non
  | .fz d => d
  | .ml xs => .lst xs
  | .md ks => .dct ks
  | .mi c fs => .ins c fs
def Sl.view : Sl → Option D
  | .un => none
  | s => some s.toD
def pureM {α : Type} (a : α) : M α := fun s => .ok a s
def badM {α : Type} : M α := fun _ => .bad
def excM {α : Type} (x : Ex) : M α := fun s => .exc x s
def Out.bind {α β : Type} : Out α → (α → M β) → Out β
  | .ok a s, f => f a s
  | .exc x s, _ => .exc x s
  | .bad, _ => .bad
def bindM {α β : Type} (m : M α) (f : α → M β) : M β := fun s => (m s).bind f
def liftM {α : Type} (o : Option α) : M α := fun s => match o with
  | some a => .ok a s
  | none => .bad
def kyV : DK → Key
  | .int i => .inl i
  | .str s => .inr ⟨s.toArray⟩
section
variable (K : PySem.W.Frag) (G : Nat → Addr) (F : Hp)
mutual
inductive Rep : V → D → Prop
  | non : Rep .non .non
  | bl (b : Bool) : Rep (.bl b) (.bl b)
  | int (i : Int) : Rep (.int i) (.int i)
  | str (s : List Nat) : Rep (.str ⟨s.toArray⟩) (.str s)
  | tup {a : Addr} {vs : List V} {ds : List D} : SqT K F a vs → RepL vs ds → Rep (.ref a) (.tup ds)
  | lst {a : Addr} {vs : List V} {ds : List D} : F a = some (.lst vs) → RepL vs ds → Rep (.ref a) (.lst ds)
  | dct {a : Addr} {o : Obj} {kvs : List (Key × V)} {ks : List (DK × D)} : F a = some (.frz o (.dK kvs)) → RepK kvs ks → Rep (.ref a) (.dct ks)
  | ins {a dx : Addr} {c : Nat} {fs : List (Str × V)} {gs : List (Str × D)} : F a = some (.ins (G c) dx fs) → RepF fs gs → Rep (.ref a) (.ins c gs)
  | scr {a : Addr} {xs : List Int} : SqL K F a (xs.map V.int) → Rep (.ref a) (.scr xs)
inductive RepL : List V → List D → Prop
  | nil : RepL [] []
  | cons {v : V} {vs : List V} {d : D} {ds : List D} : Rep v d → RepL vs ds → RepL (v :: vs) (d :: ds)
inductive RepK : List (Key × V) → List (DK × D) → Prop
  | nil : RepK [] []
  | cons {k : DK} {v : V} {vs : List (Key × V)} {d : D} {ds : List (DK × D)} : Rep v d → RepK vs ds → RepK ((kyV k, v) :: vs) ((k, d) :: ds)
inductive RepF : List (Str × V) → List (Str × D) → Prop
  | nil : RepF [] []
  | cons {k : Str} {v : V} {vs : List (Str × V)} {d : D} {ds : List (Str × D)} : Rep v d → RepF vs ds → RepF ((k, v) :: vs) ((k, d) :: ds)
end
end
section
variable {K : PySem.W.Frag} {G : Nat → Addr} {F F' : Hp}
mutual
theorem Rep.mono (h : Same F F') : ∀ {v : V} {d : D}, Rep K G F v d → Rep K G F' v d
  | _, _, .non => .non
  | _, _, .bl b => .bl b
  | _, _, .int i => .int i
  | _, _, .str s => .str s
  | _, _, .tup q r => .tup (by
      rcases q with (q | ⟨o, q⟩) | q
      · exact .inl (.inl (h _ _ q))
      · exact .inl (.inr ⟨o, h _ _ q⟩)
      · exact .inr q) (RepL.mono h r)
  | _, _, .lst q r => .lst (h _ _ q) (RepL.mono h r)
  | _, _, .dct q r => .dct (h _ _ q) (RepK.mono h r)
  | _, _, .ins q r => .ins (h _ _ q) (RepF.mono h r)
  | _, _, .scr q => .scr (Same.seq h q)
theorem RepL.mono (h : Same F F') : ∀ {v : List V} {d : List D}, RepL K G F v d → RepL K G F' v d
  | _, _, .nil => .nil
  | _, _, .cons r t => .cons (Rep.mono h r) (RepL.mono h t)
theorem RepK.mono (h : Same F F') : ∀ {v : List (Key × V)} {d : List (DK × D)}, RepK K G F v d → RepK K G F' v d
  | _, _, .nil => .nil
  | _, _, .cons r t => .cons (Rep.mono h r) (RepK.mono h t)
theorem RepF.mono (h : Same F F') : ∀ {v : List (Str × V)} {d : List (Str × D)}, RepF K G F v d → RepF K G F' v d
  | _, _, .nil => .nil
  | _, _, .cons r t => .cons (Rep.mono h r) (RepF.mono h t)
end
theorem RepL.length : ∀ {v : List V} {d : List D}, RepL K G F v d → v.length = d.length
  | _, _, .nil => rfl
  | _, _, .cons _ t => congrArg Nat.succ (RepL.length t)
theorem RepK.length : ∀ {v : List (Key × V)} {d : List (DK × D)}, RepK K G F v d → v.length = d.length
  | _, _, .nil => rfl
  | _, _, .cons _ t => congrArg Nat.succ (RepK.length t)
theorem RepF.length : ∀ {v : List (Str × V)} {d : List (Str × D)}, RepF K G F v d → v.length = d.length
  | _, _, .nil => rfl
  | _, _, .cons _ t => congrArg Nat.succ (RepF.length t)
theorem RepL.get : ∀ {vs : List V} {ds : List D} {i : Nat} {d : D}, RepL K G F vs ds → ds[i]? = some d → ∃ v, vs[i]? = some v ∧ Rep K G F v d
  | _, _, _, _, .nil, e => by simp at e
  | _, _, 0, _, .cons r _, e => by simp at e; subst e; exact ⟨_, rfl, r⟩
  | _, _, i + 1, d, .cons _ t, e => by
    obtain ⟨u, h1, h2⟩ := RepL.get (i := i) (d := d) t (by simpa using e)
    exact ⟨u, by simpa using h1, h2⟩
theorem RepL.getV : ∀ {vs : List V} {ds : List D} {i : Nat} {v : V}, RepL K G F vs ds → vs[i]? = some v → ∃ d, ds[i]? = some d ∧ Rep K G F v d
  | _, _, _, _, .nil, e => by simp at e
  | _, _, 0, _, .cons r _, e => by simp at e; subst e; exact ⟨_, rfl, r⟩
  | _, _, i + 1, d, .cons _ t, e => by
    obtain ⟨u, h1, h2⟩ := RepL.getV (i := i) (v := d) t (by simpa using e)
    exact ⟨u, by simpa using h1, h2⟩
theorem RepL.append : ∀ {vs ws : List V} {ds es : List D}, RepL K G F vs ds → RepL K G F ws es → RepL K G F (vs ++ ws) (ds ++ es)
  | _, _, _, _, .nil, q => q
  | _, _, _, _, .cons r t, q => .cons r (RepL.append t q)
theorem RepL.take : ∀ {vs : List V} {ds : List D} (n : Nat), RepL K G F vs ds → RepL K G F (vs.take n) (ds.take n)
  | _, _, 0, _ => .nil
  | _, _, _ + 1, .nil => .nil
  | _, _, n + 1, .cons r t => .cons r (RepL.take n t)
theorem RepL.drop : ∀ {vs : List V} {ds : List D} (n : Nat), RepL K G F vs ds → RepL K G F (vs.drop n) (ds.drop n)
  | _, _, 0, r => r
  | _, _, _ + 1, .nil => .nil
  | _, _, n + 1, .cons _ t => RepL.drop n t
theorem RepL.set {x : V} {d : D} (r : Rep K G F x d) : ∀ {vs : List V} {ds : List D} (n : Nat), RepL K G F vs ds → RepL K G F (vs.set n x) (ds.set n d)
  | _, _, _, .nil => .nil
  | _, _, 0, .cons _ t => .cons r t
  | _, _, n + 1, .cons q t => .cons q (RepL.set r n t)
theorem RepL.eraseIdx : ∀ {vs : List V} {ds : List D} (n : Nat), RepL K G F vs ds → RepL K G F (vs.eraseIdx n) (ds.eraseIdx n)
  | _, _, _, .nil => .nil
  | _, _, 0, .cons _ t => t
  | _, _, n + 1, .cons q t => .cons q (RepL.eraseIdx n t)
theorem RepL.dropLast : ∀ {vs : List V} {ds : List D}, RepL K G F vs ds → RepL K G F vs.dropLast ds.dropLast
  | _, _, .nil => .nil
  | _, _, .cons _ .nil => .nil
  | _, _, .cons q (.cons r t) => .cons q (RepL.dropLast (.cons r t))
end
inductive Kd where
  | oth | frz | own (i : Nat) | tab (q : Str)
  deriving DecidableEq
def TabF (F H : Hp) (a : Addr) (q : Str) : Prop := ∃ ps : Array Value, H a = some (.tbl ps) ∧ TriplesOk ps.toList ∧ ∀ (pos : Pos) (cv : Value), codeAmong pos ps.toList = some cv → ∃ c, cv = .ref c ∧ F c = some (LamX.CodeO c q)
theorem TabF.keep {F F' H H' : Hp} {a : Addr} {q : Str} (t : TabF F H a q) (f : Same F F') (h : H' a = H a) : TabF F' H' a q := by
  obtain ⟨ps, h1, h2, h3⟩ := t
  exact ⟨ps, h.trans h1, h2, fun pos cv e => let ⟨c, e1, e2⟩ := h3 pos cv e; ⟨c, e1, f _ _ e2⟩⟩
theorem TabF.some {F H : Hp} {a : Addr} {q : Str} (t : TabF F H a q) : ∃ o, H a = some o := let ⟨_, h, _⟩ := t; ⟨_, h⟩
structure Wd where
  F : Hp
  k : Addr → Kd
  H : Hp
def Pl (o : HO) : Prop := (∀ ps, o ≠ .tbl ps) ∧ ∀ c q, o ≠ LamX.CodeO c q
structure Wd.Ok (w : Wd) : Prop where
  sub : Same w.F w.H
  kf : ∀ a, w.k a = .frz ↔ ∃ o, w.F a = some o
  ko : ∀ a i, w.k a = .own i → ∃ o, w.H a = some o
  kt : ∀ a q, w.k a = .tab q → TabF w.F w.H a q
  kd : ∀ a ps, w.H a = some (.tbl ps) → ∃ q, w.k a = .tab q
  kc : ∀ a c q, w.H a = some (LamX.CodeO c q) → w.k a = .frz
structure Step (w w' : Wd) : Prop where
  f : Same w.F w'.F
  o : ∀ a o, w.H a = some o → w.k a = .oth → w'.H a = some o ∧ w'.k a = .oth
  d : ∀ a, w'.H a = none → w.H a = none
  t : ∀ a q, w.k a = .tab q ↔ w'.k a = .tab q
  w : ∀ a i, w.k a = .own i → w'.k a = .own i ∨ w'.k a = .frz
theorem Step.refl (w : Wd) : Step w w := ⟨Same.refl _, fun _ _ h k => ⟨h, k⟩, fun _ h => h, fun _ _ => Iff.rfl, fun _ _ h => .inl h⟩
theorem Step.trans {w w1 w2 : Wd} (ok : w1.Ok) (ok2 : w2.Ok) (a : Step w w1) (b : Step w1 w2) : Step w w2 where
  f := a.f.trans b.f
  o := fun c o h k => let ⟨h1, k1⟩ := a.o c o h k; b.o c o h1 k1
  d := fun c h => a.d c (b.d c h)
  w := fun c i h => by
    rcases a.w c i h with h | h
    · exact b.w c i h
    · obtain ⟨o, e⟩ := (ok.kf c).mp h
      exact .inr ((ok2.kf c).mpr ⟨o, b.f c o e⟩)
  t := fun c q => (a.t c q).trans (b.t c q)
structure Grw (w w' : Wd) : Prop where
  f : Same w.F w'.F
  h : Same w.H w'.H
  k : ∀ a o, w.H a = some o → w'.k a = w.k a
  t : ∀ a q, w'.k a = .tab q → w.k a = .tab q
theorem Grw.refl (w : Wd) : Grw w w := ⟨Same.refl _, Same.refl _, fun _ _ _ => rfl, fun _ _ h => h⟩
theorem Grw.trans {w w1 w2 : Wd} (a : Grw w w1) (b : Grw w1 w2) : Grw w w2 :=
  ⟨a.f.trans b.f, a.h.trans b.h, fun c o h => (b.k c o (a.h c o h)).trans (a.k c o h), fun c q h => a.t c q (b.t c q h)⟩
theorem Grw.step {w w' : Wd} (ok : w.Ok) (g : Grw w w') : Step w w' where
  f := g.f
  o := fun a o h k => ⟨g.h a o h, (g.k a o h).trans k⟩
  d := fun a h => by
    cases e : w.H a with
    | none => rfl
    | some o => rw [g.h a o e] at h; cases h
  w := fun a i h => by
    obtain ⟨o, e⟩ := ok.ko a i h
    exact .inl ((g.k a o e).trans h)
  t := fun a q => ⟨fun h => by
    obtain ⟨o, e⟩ := (ok.kt a q h).some
    exact (g.k a o e).trans h, g.t a q⟩
def Tk (K : PySem.W.Frag) (w : Wd) : Prop := ∀ a q, w.k a = .tab q ↔ ∃ x ∈ lamDefs, lamB K x = true ∧ a = tabA K x ∧ q = x ++ ".<locals>.<lambda>"
theorem Tk.step {K : PySem.W.Frag} {w w' : Wd} (h : Tk K w) (s : Step w w') : Tk K w' := fun a q => (s.t a q).symm.trans (h a q)
theorem Tk.upd {K : PySem.W.Frag} {w w' : Wd} {a : Addr} {f : Kd} (h : Tk K w) (ht : ∀ q, w.k a ≠ .tab q) (hk : w'.k = fun b => if b = a then f else w.k b) (hf : ∀ q, f ≠ .tab q := by intro q z; cases z) : Tk K w' := fun b q => by
  rw [hk]
  show (if b = a then f else w.k b) = _ ↔ _
  by_cases n : b = a
  · subst n
    rw [if_pos rfl]
    exact ⟨fun z => absurd z (hf q), fun z => absurd ((h _ q).mpr z) (ht q)⟩
  · rw [if_neg n]; exact h b q
theorem Tk.of {K : PySem.W.Frag} {w w' : Wd} (h : Tk K w) (s : ∀ a q, w'.k a = .tab q ↔ w.k a = .tab q) : Tk K w' := fun a q => (s a q).trans (h a q)
section
variable (K : PySem.W.Frag) (G : Nat → Addr)
def SlotR (w : Wd) (i : Nat) : Option V → Sl → Prop
  | x, .un => True
  | x, .fz d => ∃ v, x = some v ∧ Rep K G w.F v d
  | x, .ml xs => ∃ a vs, x = some (.ref a) ∧ w.k a = .own i ∧ w.H a = some (.lst vs) ∧ RepL K G w.F vs xs
  | x, .md ks => ∃ a vs, x = some (.ref a) ∧ w.k a = .own i ∧ w.H a = some (.dK vs) ∧ RepK K G w.F vs ks
  | x, .mi c fs => ∃ a dx vs, x = some (.ref a) ∧ w.k a = .own i ∧ w.H a = some (.ins (G c) dx vs) ∧ RepF K G w.F vs fs
structure Rel (w : Wd) (st : Env) (σ : L2.St) : Prop where
  ok : w.Ok
  len : σ.length = st.length
  at_ : ∀ i s, st[i]? = some s → ∃ x, σ[i]? = some x ∧ SlotR K G w i x s
  tk : Tk K w
def FrR (w0 w : Wd) : V → Sl → Prop
  | _, .un => False
  | v, .fz d => Rep K G w.F v d
  | v, .ml xs => ∃ a vs, v = .ref a ∧ w0.H a = none ∧ w.k a = .oth ∧ w.H a = some (.lst vs) ∧ RepL K G w.F vs xs
  | v, .md ks => ∃ a vs, v = .ref a ∧ w0.H a = none ∧ w.k a = .oth ∧ w.H a = some (.dK vs) ∧ RepK K G w.F vs ks
  | v, .mi c fs => ∃ a dx vs, v = .ref a ∧ w0.H a = none ∧ w.k a = .oth ∧ w.H a = some (.ins (G c) dx vs) ∧ RepF K G w.F vs fs
inductive RepB (w : Wd) : V → D → Prop
  | fz {v : V} {d : D} : Rep K G w.F v d → RepB w v d
  | ml {a : Addr} {vs : List V} {xs : List D} : w.H a = some (.lst vs) → RepL K G w.F vs xs → RepB w (.ref a) (.lst xs)
  | md {a : Addr} {vs : List (Key × V)} {ks : List (DK × D)} : w.H a = some (.dK vs) → RepK K G w.F vs ks → RepB w (.ref a) (.dct ks)
  | mi {a dx : Addr} {c : Nat} {vs : List (Str × V)} {fs : List (Str × D)} : w.H a = some (.ins (G c) dx vs) → RepF K G w.F vs fs → RepB w (.ref a) (.ins c fs)
inductive RepBL (w : Wd) : List V → List D → Prop
  | nil : RepBL w [] []
  | cons {v : V} {vs : List V} {d : D} {ds : List D} : RepB K G w v d → RepBL w vs ds → RepBL w (v :: vs) (d :: ds)
def ExR (w : Wd) (cls : Value) (d : Option Addr) (x : Ex) : Prop :=
  cls = .ref (G x.c) ∧ ((x.fs = [] ∧ d = none) ∨ ∃ a vs, d = some a ∧ w.H a = some (.xd vs) ∧ RepF K G w.F vs x.fs)
end
section
variable {K : PySem.W.Frag} {G : Nat → Addr} {w w' w0 : Wd} {st : Env} {σ : L2.St}
theorem SlotR.grow (ok : w.Ok) (g : Grw w w') {i : Nat} : ∀ {x : Option V} {s : Sl}, SlotR K G w i x s → SlotR K G w' i x s
  | _, .un, _ => trivial
  | _, .fz d, ⟨v, e, r⟩ => ⟨v, e, r.mono g.f⟩
  | _, .ml xs, ⟨a, vs, e, k, h, r⟩ => ⟨a, vs, e, (g.k a _ h).trans k, g.h a _ h, r.mono g.f⟩
  | _, .md xs, ⟨a, vs, e, k, h, r⟩ => ⟨a, vs, e, (g.k a _ h).trans k, g.h a _ h, r.mono g.f⟩
  | _, .mi c xs, ⟨a, dx, vs, e, k, h, r⟩ => ⟨a, dx, vs, e, (g.k a _ h).trans k, g.h a _ h, r.mono g.f⟩
theorem Rel.grow (R : Rel K G w st σ) (ok' : w'.Ok) (g : Grw w w') : Rel K G w' st σ :=
  ⟨ok', R.len, fun i s e => let ⟨x, h, r⟩ := R.at_ i s e; ⟨x, h, r.grow R.ok g⟩, R.tk.step (g.step R.ok)⟩
theorem RepB.to (ok : w.Ok) {v : V} {d : D} (r : Rep K G w.F v d) : RepB K G w v d := .fz r
theorem RepBL.of : ∀ {vs : List V} {ds : List D}, RepL K G w.F vs ds → RepBL K G w vs ds
  | _, _, .nil => .nil
  | _, _, .cons r t => .cons (.fz r) (RepBL.of t)
theorem RepBL.length : ∀ {v : List V} {d : List D}, RepBL K G w v d → v.length = d.length
  | _, _, .nil => rfl
  | _, _, .cons _ t => congrArg Nat.succ (RepBL.length t)
def Wd.frz (w : Wd) (a : Addr) (o : HO) : Wd := ⟨upd w.F a o, fun b => if b = a then .frz else w.k b, upd w.H a o⟩
def Wd.new (w : Wd) (a : Addr) (o : HO) : Wd := ⟨w.F, w.k, upd w.H a o⟩
def Wd.own (w : Wd) (a : Addr) (i : Nat) : Wd := ⟨w.F, fun b => if b = a then .own i else w.k b, w.H⟩
def Wd.put (w : Wd) (a : Addr) (o : HO) : Wd := ⟨w.F, w.k, upd w.H a o⟩
def Wd.ice (w : Wd) (a : Addr) (o : HO) : Wd := ⟨upd w.F a o, fun b => if b = a then .frz else w.k b, w.H⟩
theorem same_upd {H : Hp} {p : Addr} {o : HO} (h : H p = none) : Same H (upd H p o) := fun b x e => by
  rw [upd_ne (ne_of_none e h)]
  exact e
theorem Wd.Ok.f_none (ok : w.Ok) {a : Addr} (h : w.H a = none) : w.F a = none := by
  cases e : w.F a with
  | none => rfl
  | some o => rw [ok.sub a o e] at h; cases h
theorem Wd.Ok.k_oth (ok : w.Ok) {a : Addr} (h : w.H a = none) : w.k a = .oth := by
  cases e : w.k a with
  | oth => rfl
  | frz => obtain ⟨o, q⟩ := (ok.kf a).mp e; rw [ok.sub a o q] at h; cases h
  | own i => obtain ⟨o, q⟩ := ok.ko a i e; rw [q] at h; cases h
  | tab n => obtain ⟨o, q⟩ := (ok.kt a n e).some; rw [q] at h; cases h
theorem Wd.Ok.no_tab (ok : w.Ok) {a : Addr} {o : HO} (h : w.H a = some o) (n : ∀ ps, o ≠ .tbl ps) (q : Str) : w.k a ≠ .tab q := fun e => by
  obtain ⟨ps, e2, _⟩ := ok.kt a q e
  rw [h] at e2
  exact n ps (Option.some.inj e2)
theorem Wd.Ok.f_none_of (ok : w.Ok) {a : Addr} (h : w.k a ≠ .frz) : w.F a = none := by
  cases e : w.F a with
  | none => rfl
  | some o => exact absurd ((ok.kf a).mpr ⟨o, e⟩) h
theorem Wd.frz_ok (ok : w.Ok) {a : Addr} {o : HO} (h : w.H a = none) (hp : Pl o := by first | assumption | exact ⟨fun _ z => (by cases z), fun _ _ z => (by unfold LamX.CodeO at z; cases z)⟩) : (w.frz a o).Ok where
  sub := fun b x e => by
    unfold Wd.frz at e ⊢
    dsimp only at e ⊢
    by_cases q : b = a
    · subst q; rw [upd_same] at e ⊢; exact e
    · rw [upd_ne q] at e ⊢; exact ok.sub b x e
  kf := fun b => by
    unfold Wd.frz
    dsimp only
    by_cases q : b = a
    · subst q; simp [upd_same]
    · rw [if_neg q, upd_ne q]; exact ok.kf b
  ko := fun b i e => by
    unfold Wd.frz at e ⊢
    dsimp only at e ⊢
    by_cases q : b = a
    · rw [if_pos q] at e; cases e
    · rw [if_neg q] at e; rw [upd_ne q]; exact ok.ko b i e
  kt := fun b n e => by
    unfold Wd.frz at e ⊢
    dsimp only at e ⊢
    by_cases q : b = a
    · rw [if_pos q] at e; cases e
    · rw [if_neg q] at e; exact (ok.kt b n e).keep (same_upd (ok.f_none h)) (upd_ne q)
  kd := fun b ps e => by
    unfold Wd.frz at e ⊢
    dsimp only at e ⊢
    by_cases q : b = a
    · subst q; rw [upd_same] at e; exact absurd (Option.some.inj e) (hp.1 ps)
    · rw [if_neg q]; rw [upd_ne q] at e; exact ok.kd b ps e
  kc := fun b c n e => by
    unfold Wd.frz at e ⊢
    dsimp only at e ⊢
    by_cases q : b = a
    · rw [if_pos q]
    · rw [if_neg q]; rw [upd_ne q] at e; exact ok.kc b c n e
theorem Wd.frz_grw (ok : w.Ok) {a : Addr} {o : HO} (h : w.H a = none) : Grw w (w.frz a o) :=
  ⟨same_upd (ok.f_none h), same_upd h, fun b x e => by
    have q : b ≠ a := ne_of_none e h
    unfold Wd.frz; dsimp only; rw [if_neg q], fun b n e => by
    unfold Wd.frz at e; dsimp only at e
    by_cases q : b = a
    · rw [if_pos q] at e; cases e
    · rw [if_neg q] at e; exact e⟩
theorem Wd.new_ok (ok : w.Ok) {a : Addr} {o : HO} (h : w.H a = none) (hp : Pl o := by first | assumption | exact ⟨fun _ z => (by cases z), fun _ _ z => (by unfold LamX.CodeO at z; cases z)⟩) : (w.new a o).Ok :=
  ⟨fun b x e => same_upd h b x (ok.sub b x e), ok.kf, fun b i e => let ⟨x, q⟩ := ok.ko b i e; ⟨x, same_upd h b x q⟩, fun b n e => (ok.kt b n e).keep (Same.refl _) (upd_ne (by
    obtain ⟨o, q⟩ := (ok.kt b n e).some
    exact ne_of_none q h)), fun b ps e => by
    have e : upd w.H a o b = _ := e
    by_cases q : b = a
    · subst q; rw [upd_same] at e; exact absurd (Option.some.inj e) (hp.1 ps)
    · rw [upd_ne q] at e; exact ok.kd b ps e, fun b c n e => by
    have e : upd w.H a o b = _ := e
    by_cases q : b = a
    · subst q; rw [upd_same] at e; exact absurd (Option.some.inj e) (hp.2 c n)
    · rw [upd_ne q] at e; exact ok.kc b c n e⟩
theorem Wd.new_grw {a : Addr} {o : HO} (h : w.H a = none) : Grw w (w.new a o) := ⟨Same.refl _, same_upd h, fun _ _ _ => rfl, fun _ _ e => e⟩
theorem Wd.ice_same (ok : w.Ok) {a : Addr} {o : HO} (h : w.H a = some o) : Same w.F (w.ice a o).F := fun b x e => by
  unfold Wd.ice
  dsimp only
  by_cases q : b = a
  · subst q
    have := ok.sub _ _ e
    rw [h] at this
    cases this
    rw [upd_same]
  · rw [upd_ne q]; exact e
theorem Wd.ice_ok (ok : w.Ok) {a : Addr} {o : HO} (h : w.H a = some o) (hp : Pl o := by first | assumption | exact ⟨fun _ z => (by cases z), fun _ _ z => (by unfold LamX.CodeO at z; cases z)⟩) : (w.ice a o).Ok where
  sub := fun b x e => by
    unfold Wd.ice at e ⊢
    dsimp only at e ⊢
    by_cases q : b = a
    · subst q; rw [upd_same] at e; cases e; exact h
    · rw [upd_ne q] at e; exact ok.sub b x e
  kf := fun b => by
    unfold Wd.ice
    dsimp only
    by_cases q : b = a
    · subst q; simp [upd_same]
    · rw [if_neg q, upd_ne q]; exact ok.kf b
  ko := fun b i e => by
    unfold Wd.ice at e ⊢
    dsimp only at e ⊢
    by_cases q : b = a
    · rw [if_pos q] at e; cases e
    · rw [if_neg q] at e; exact ok.ko b i e
  kt := fun b n e => by
    have z := Wd.ice_same ok h
    unfold Wd.ice at e z ⊢
    dsimp only at e z ⊢
    by_cases q : b = a
    · rw [if_pos q] at e; cases e
    · rw [if_neg q] at e; exact (ok.kt b n e).keep z rfl
  kd := fun b ps e => by
    have e2 : w.H b = _ := e
    unfold Wd.ice; dsimp only
    by_cases q : b = a
    · subst q; rw [h] at e2; exact absurd (Option.some.inj e2) (hp.1 ps)
    · rw [if_neg q]; exact ok.kd b ps e2
  kc := fun b c n e => by
    have e2 : w.H b = _ := e
    unfold Wd.ice; dsimp only
    by_cases q : b = a
    · rw [if_pos q]
    · rw [if_neg q]; exact ok.kc b c n e2
theorem Wd.own_ok (ok : w.Ok) {a : Addr} {i : Nat} {o : HO} (h : w.H a = some o) (hk : w.k a ≠ .frz) (hp : Pl o := by first | assumption | exact ⟨fun _ z => (by cases z), fun _ _ z => (by unfold LamX.CodeO at z; cases z)⟩) : (w.own a i).Ok where
  sub := ok.sub
  kf := fun b => by
    unfold Wd.own
    dsimp only
    by_cases q : b = a
    · subst q
      rw [if_pos rfl]
      constructor
      · intro z; cases z
      · rintro ⟨o', e⟩; exact absurd ((ok.kf b).mpr ⟨o', e⟩) hk
    · rw [if_neg q]; exact ok.kf b
  ko := fun b j e => by
    unfold Wd.own at e
    dsimp only at e
    by_cases q : b = a
    · rw [q]; exact ⟨o, h⟩
    · rw [if_neg q] at e; exact ok.ko b j e
  kt := fun b n e => by
    unfold Wd.own at e
    dsimp only at e
    by_cases q : b = a
    · rw [if_pos q] at e; cases e
    · rw [if_neg q] at e; exact ok.kt b n e
  kd := fun b ps e => by
    have e2 : w.H b = _ := e
    unfold Wd.own; dsimp only
    by_cases q : b = a
    · subst q; rw [h] at e2; exact absurd (Option.some.inj e2) (hp.1 ps)
    · rw [if_neg q]; exact ok.kd b ps e2
  kc := fun b c n e => by
    have e2 : w.H b = _ := e
    unfold Wd.own; dsimp only
    by_cases q : b = a
    · subst q; rw [h] at e2; exact absurd (Option.some.inj e2) (hp.2 c n)
    · rw [if_neg q]; exact ok.kc b c n e2
theorem Wd.put_ok (ok : w.Ok) {a : Addr} {o : HO} (hk : w.k a ≠ .frz) (ht : ∀ q, w.k a ≠ .tab q := by intro _ z; simp_all) (hp : Pl o := by first | assumption | exact ⟨fun _ z => (by cases z), fun _ _ z => (by unfold LamX.CodeO at z; cases z)⟩) : (w.put a o).Ok where
  sub := fun b x e => by
    have q : b ≠ a := by
      rintro rfl
      exact hk ((ok.kf b).mpr ⟨x, e⟩)
    unfold Wd.put; dsimp only; rw [upd_ne q]; exact ok.sub b x e
  kf := ok.kf
  ko := fun b i e => by
    unfold Wd.put; dsimp only
    by_cases q : b = a
    · subst q; exact ⟨o, upd_same⟩
    · rw [upd_ne q]; exact ok.ko b i e
  kt := fun b n e => (ok.kt b n e).keep (Same.refl _) (upd_ne (by rintro rfl; exact ht n e))
  kd := fun b ps e => by
    have e : upd w.H a o b = _ := e
    by_cases q : b = a
    · subst q; rw [upd_same] at e; exact absurd (Option.some.inj e) (hp.1 ps)
    · rw [upd_ne q] at e; exact ok.kd b ps e
  kc := fun b c n e => by
    have e : upd w.H a o b = _ := e
    by_cases q : b = a
    · subst q; rw [upd_same] at e; exact absurd (Option.some.inj e) (hp.2 c n)
    · rw [upd_ne q] at e; exact ok.kc b c n e
theorem Wd.put_step (ok : w.Ok) {a : Addr} {o : HO} {i : Nat} (hk : w.k a = .own i) : Step w (w.put a o) where
  f := Same.refl _
  o := fun b x e k => by
    have q : b ≠ a := by rintro rfl; rw [hk] at k; cases k
    exact ⟨by unfold Wd.put; dsimp only; rw [upd_ne q]; exact e, k⟩
  d := fun b e => by
    unfold Wd.put at e; dsimp only at e
    by_cases q : b = a
    · subst q; rw [upd_same] at e; cases e
    · rw [upd_ne q] at e; exact e
  w := fun _ _ e => .inl e
  t := fun _ _ => Iff.rfl
theorem SlotR.put {a : Addr} {o : HO} {i j : Nat} (hk : w.k a = .own i) (hj : j ≠ i) : ∀ {x : Option V} {s : Sl}, SlotR K G w j x s → SlotR K G (w.put a o) j x s
  | _, .un, _ => trivial
  | _, .fz d, h => h
  | _, .ml xs, ⟨b, vs, e, k, h, r⟩ => ⟨b, vs, e, k, by
      have q : b ≠ a := by rintro rfl; rw [hk] at k; cases k; exact hj rfl
      unfold Wd.put; dsimp only; rw [upd_ne q]; exact h, r⟩
  | _, .md xs, ⟨b, vs, e, k, h, r⟩ => ⟨b, vs, e, k, by
      have q : b ≠ a := by rintro rfl; rw [hk] at k; cases k; exact hj rfl
      unfold Wd.put; dsimp only; rw [upd_ne q]; exact h, r⟩
  | _, .mi c xs, ⟨b, dx, vs, e, k, h, r⟩ => ⟨b, dx, vs, e, k, by
      have q : b ≠ a := by rintro rfl; rw [hk] at k; cases k; exact hj rfl
      unfold Wd.put; dsimp only; rw [upd_ne q]; exact h, r⟩
theorem SlotR.ice (ok : w.Ok) {a : Addr} {o : HO} {j : Nat} (h : w.H a = some o) (hk : w.k a ≠ .own j) : ∀ {x : Option V} {s : Sl}, SlotR K G w j x s → SlotR K G (w.ice a o) j x s
  | _, .un, _ => trivial
  | _, .fz d, ⟨v, e, r⟩ => ⟨v, e, r.mono (Wd.ice_same ok h)⟩
  | _, .ml xs, ⟨b, vs, e, k, q, r⟩ => ⟨b, vs, e, by
      have n : b ≠ a := by rintro rfl; exact hk k
      unfold Wd.ice; dsimp only; rw [if_neg n]; exact k, q, r.mono (Wd.ice_same ok h)⟩
  | _, .md xs, ⟨b, vs, e, k, q, r⟩ => ⟨b, vs, e, by
      have n : b ≠ a := by rintro rfl; exact hk k
      unfold Wd.ice; dsimp only; rw [if_neg n]; exact k, q, r.mono (Wd.ice_same ok h)⟩
  | _, .mi c xs, ⟨b, dx, vs, e, k, q, r⟩ => ⟨b, dx, vs, e, by
      have n : b ≠ a := by rintro rfl; exact hk k
      unfold Wd.ice; dsimp only; rw [if_neg n]; exact k, q, r.mono (Wd.ice_same ok h)⟩
def Wd.lck (w : Wd) (a : Addr) (o : HO) : Wd := ⟨upd w.F a o, fun b => if b = a then .frz else w.k b, upd w.H a o⟩
theorem Wd.lck_same (ok : w.Ok) {a : Addr} {o : HO} (hk : w.k a ≠ .frz) : Same w.F (w.lck a o).F := fun b x e => by
  unfold Wd.lck
  dsimp only
  by_cases q : b = a
  · subst q
    exact absurd ((ok.kf b).mpr ⟨x, e⟩) hk
  · rw [upd_ne q]; exact e
theorem Wd.lck_ok (ok : w.Ok) {a : Addr} {o : HO} (hf : w.k a ≠ .frz := by first | assumption | simp_all) (hp : Pl o := by first | assumption | exact ⟨fun _ z => (by cases z), fun _ _ z => (by unfold LamX.CodeO at z; cases z)⟩) : (w.lck a o).Ok where
  sub := fun b x e => by
    unfold Wd.lck at e ⊢
    dsimp only at e ⊢
    by_cases q : b = a
    · subst q; rw [upd_same] at e ⊢; exact e
    · rw [upd_ne q] at e ⊢; exact ok.sub b x e
  kf := fun b => by
    unfold Wd.lck
    dsimp only
    by_cases q : b = a
    · subst q; simp [upd_same]
    · rw [if_neg q, upd_ne q]; exact ok.kf b
  ko := fun b i e => by
    unfold Wd.lck at e ⊢
    dsimp only at e ⊢
    by_cases q : b = a
    · rw [if_pos q] at e; cases e
    · rw [if_neg q] at e; rw [upd_ne q]; exact ok.ko b i e
  kt := fun b n e => by
    have z := Wd.lck_same (o := o) ok hf
    unfold Wd.lck at e z ⊢
    dsimp only at e z ⊢
    by_cases q : b = a
    · rw [if_pos q] at e; cases e
    · rw [if_neg q] at e; exact (ok.kt b n e).keep z (upd_ne q)
  kd := fun b ps e => by
    have e : upd w.H a o b = _ := e
    unfold Wd.lck; dsimp only
    by_cases q : b = a
    · subst q; rw [upd_same] at e; exact absurd (Option.some.inj e) (hp.1 ps)
    · rw [if_neg q]; rw [upd_ne q] at e; exact ok.kd b ps e
  kc := fun b c n e => by
    have e : upd w.H a o b = _ := e
    unfold Wd.lck; dsimp only
    by_cases q : b = a
    · rw [if_pos q]
    · rw [if_neg q]; rw [upd_ne q] at e; exact ok.kc b c n e
theorem SlotR.lck (ok : w.Ok) {a : Addr} {o : HO} {j : Nat} (hf : w.k a ≠ .frz) (hk : w.k a ≠ .own j) : ∀ {x : Option V} {s : Sl}, SlotR K G w j x s → SlotR K G (w.lck a o) j x s
  | _, .un, _ => trivial
  | _, .fz d, ⟨v, e, r⟩ => ⟨v, e, r.mono (Wd.lck_same ok hf)⟩
  | _, .ml xs, ⟨b, vs, e, k, q, r⟩ => ⟨b, vs, e, by
      have n : b ≠ a := by rintro rfl; exact hk k
      unfold Wd.lck; dsimp only; rw [if_neg n]; exact k, by
      have n : b ≠ a := by rintro rfl; exact hk k
      unfold Wd.lck; dsimp only; rw [upd_ne n]; exact q, r.mono (Wd.lck_same ok hf)⟩
  | _, .md xs, ⟨b, vs, e, k, q, r⟩ => ⟨b, vs, e, by
      have n : b ≠ a := by rintro rfl; exact hk k
      unfold Wd.lck; dsimp only; rw [if_neg n]; exact k, by
      have n : b ≠ a := by rintro rfl; exact hk k
      unfold Wd.lck; dsimp only; rw [upd_ne n]; exact q, r.mono (Wd.lck_same ok hf)⟩
  | _, .mi c xs, ⟨b, dx, vs, e, k, q, r⟩ => ⟨b, dx, vs, e, by
      have n : b ≠ a := by rintro rfl; exact hk k
      unfold Wd.lck; dsimp only; rw [if_neg n]; exact k, by
      have n : b ≠ a := by rintro rfl; exact hk k
      unfold Wd.lck; dsimp only; rw [upd_ne n]; exact q, r.mono (Wd.lck_same ok hf)⟩
theorem Wd.lck_step (ok : w.Ok) {a : Addr} {o : HO} (hf : w.k a ≠ .frz) (h0 : w0.H a = none ∨ w.k a ≠ .oth) (s : Step w0 w) (ht : ∀ q, w.k a ≠ .tab q := by intro _ z; simp_all) : Step w0 (w.lck a o) where
  f := s.f.trans (Wd.lck_same ok hf)
  o := fun b x e k => by
    obtain ⟨e1, k1⟩ := s.o b x e k
    have n : b ≠ a := by
      rintro rfl
      rcases h0 with z | z
      · rw [z] at e; cases e
      · exact z k1
    exact ⟨by unfold Wd.lck; dsimp only; rw [upd_ne n]; exact e1, by unfold Wd.lck; dsimp only; rw [if_neg n]; exact k1⟩
  d := fun b e => by
    refine s.d b ?_
    unfold Wd.lck at e; dsimp only at e
    by_cases q : b = a
    · subst q; rw [upd_same] at e; cases e
    · rw [upd_ne q] at e; exact e
  w := fun b i e => by
    unfold Wd.lck; dsimp only
    by_cases q : b = a
    · rw [if_pos q]; exact .inr rfl
    · rw [if_neg q]; exact s.w b i e
  t := fun b n => (s.t b n).trans (by
    unfold Wd.lck; dsimp only
    by_cases q : b = a
    · subst q
      rw [if_pos rfl]
      exact ⟨fun z => absurd z (ht n), fun z => by cases z⟩
    · rw [if_neg q])
theorem Wd.ice_step (ok : w.Ok) {a : Addr} {o : HO} (h : w.H a = some o) (h0 : w0.H a = none ∨ w.k a ≠ .oth) (s : Step w0 w) (ht : ∀ q, w.k a ≠ .tab q := by intro _ z; simp_all) : Step w0 (w.ice a o) where
  f := s.f.trans (Wd.ice_same ok h)
  o := fun b x e k => by
    obtain ⟨e1, k1⟩ := s.o b x e k
    have n : b ≠ a := by
      rintro rfl
      rcases h0 with z | z
      · rw [z] at e; cases e
      · exact z k1
    exact ⟨e1, by unfold Wd.ice; dsimp only; rw [if_neg n]; exact k1⟩
  d := s.d
  w := fun b i e => by
    unfold Wd.ice; dsimp only
    by_cases q : b = a
    · rw [if_pos q]; exact .inr rfl
    · rw [if_neg q]; exact s.w b i e
  t := fun b n => (s.t b n).trans (by
    unfold Wd.ice; dsimp only
    by_cases q : b = a
    · subst q
      rw [if_pos rfl]
      exact ⟨fun z => absurd z (ht n), fun z => by cases z⟩
    · rw [if_neg q])
end
end Rz
namespace Rz
open PySem PySem.Spec PyProof.Rows L2
structure RunE (X : Cx) (e : Expr) (σ : L2.St) (H : Hp) (Q : VK) : Prop where
  run : ∀ pins s, Inv X pins σ H s → wpAny (model X.prog X.w) X.A (eval e X.env) (EP X pins σ Q) X.xe s
instance {X : Cx} {e : Expr} {σ : L2.St} {H : Hp} {Q : VK} : CoeFun (RunE X e σ H Q) fun _ => ∀ pins s, Inv X pins σ H s → wpAny (model X.prog X.w) X.A (eval e X.env) (EP X pins σ Q) X.xe s := ⟨RunE.run⟩
theorem pe_run {X : Cx} {e : Expr} : PE X e (RunE X e) := ⟨fun pins s σ H Q I h => h pins s I⟩
theorem RunE.of {X : Cx} {e : Expr} {t : TE} {σ : L2.St} {H : Hp} {Q : VK} (h : PE X e t) (ht : t σ H Q) : RunE X e σ H Q := ⟨fun pins s I => h.run pins s σ H Q I ht⟩
theorem RunE.lk {X : Cx} {e : Expr} {σ : L2.St} {H : Hp} {Q : VK} (h : RunE X e σ H (fun v H1 => Q v H1 ∨ ∃ a u, H1 a = some u ∧ Mut (some u) ∧ ∀ od, Q v (upd H1 a (.frz od u)))) : RunE X e σ H Q := ⟨fun pins s I =>
  thn (h pins s I) fun v s' ⟨x, H', I', r, q⟩ => by
    rcases q with q | ⟨a, u, e, mu, q⟩
    · exact ⟨x, H', I', r, q⟩
    · obtain ⟨od, I2⟩ := I'.lock e mu
      exact ⟨x, _, I2, r, q od⟩⟩
structure RunT (X : Cx) (e : Expr) (σ : L2.St) (H : Hp) (Q : Bool → Hp → Prop) : Prop where
  run : ∀ pins s, Inv X pins σ H s → wpAny (model X.prog X.w) X.A (isTrue e X.env (eval e X.env)) (TP X pins σ Q) X.xe s
instance {X : Cx} {e : Expr} {σ : L2.St} {H : Hp} {Q : Bool → Hp → Prop} : CoeFun (RunT X e σ H Q) fun _ => ∀ pins s, Inv X pins σ H s → wpAny (model X.prog X.w) X.A (isTrue e X.env (eval e X.env)) (TP X pins σ Q) X.xe s := ⟨RunT.run⟩
theorem pt_run {X : Cx} {e : Expr} : PT X e (RunT X e) := ⟨fun pins s σ H Q I h => h pins s I⟩
theorem RunT.of {X : Cx} {e : Expr} {t : TT} {σ : L2.St} {H : Hp} {Q : Bool → Hp → Prop} (h : PT X e t) (ht : t σ H Q) : RunT X e σ H Q := ⟨fun pins s I => h.run pins s σ H Q I ht⟩
structure RunW (X : Cx) (e : Expr) (σ : L2.St) (H : Hp) (Q : Bool → Hp → Prop) : Prop where
  run : ∀ (whole : Sem Value) pins s, Inv X pins σ H s → wpAny (model X.prog X.w) X.A (isTrue e X.env whole) (TP X pins σ Q) X.xe s
instance {X : Cx} {e : Expr} {σ : L2.St} {H : Hp} {Q : Bool → Hp → Prop} : CoeFun (RunW X e σ H Q) fun _ => ∀ (whole : Sem Value) pins s, Inv X pins σ H s → wpAny (model X.prog X.w) X.A (isTrue e X.env whole) (TP X pins σ Q) X.xe s := ⟨RunW.run⟩
theorem pw_run {X : Cx} {e : Expr} : PW X e (RunW X e) := ⟨fun wh pins s σ H Q I h => h wh pins s I⟩
theorem RunW.of {X : Cx} {e : Expr} {t : TT} {σ : L2.St} {H : Hp} {Q : Bool → Hp → Prop} (h : PW X e t) (ht : t σ H Q) : RunW X e σ H Q := ⟨fun wh pins s I => h.run wh pins s σ H Q I ht⟩
def RunL (X : Cx) : List Expr → L2.St → Hp → (List V → Hp → Prop) → Prop
  | [], _, H, Q => Q [] H
  | e :: es, σ, H, Q => RunE X e σ H fun x H1 => RunL X es σ H1 fun xs H2 => Q (x :: xs) H2
structure RunS (X : Cx) (st : Stmt) (D : Ends) (σ : L2.St) (H : Hp) : Prop where
  run : ∀ pins s, Inv X pins σ H s → wpAny (model X.prog X.w) X.A (exec st X.env) (SP X pins D) X.xe s
instance {X : Cx} {st : Stmt} {D : Ends} {σ : L2.St} {H : Hp} : CoeFun (RunS X st D σ H) fun _ => ∀ pins s, Inv X pins σ H s → wpAny (model X.prog X.w) X.A (exec st X.env) (SP X pins D) X.xe s := ⟨RunS.run⟩
theorem ps_run {X : Cx} {st : Stmt} : PS X st (RunS X st) := ⟨fun pins s σ H D I h => h pins s I⟩
theorem RunS.of {X : Cx} {st : Stmt} {t : TS} {σ : L2.St} {H : Hp} {D : Ends} (h : PS X st t) (ht : t D σ H) : RunS X st D σ H := ⟨fun pins s I => h.run pins s σ H D I ht⟩
structure RunB (X : Cx) (st : List Stmt) (D : Ends) (σ : L2.St) (H : Hp) : Prop where
  run : ∀ pins s, Inv X pins σ H s → wpAny (model X.prog X.w) X.A (execs st X.env) (SP X pins D) X.xe s
instance {X : Cx} {st : List Stmt} {D : Ends} {σ : L2.St} {H : Hp} : CoeFun (RunB X st D σ H) fun _ => ∀ pins s, Inv X pins σ H s → wpAny (model X.prog X.w) X.A (execs st X.env) (SP X pins D) X.xe s := ⟨RunB.run⟩
theorem pss_run {X : Cx} {st : List Stmt} : PSs X st (RunB X st) := ⟨fun pins s σ H D I h => h pins s I⟩
theorem RunB.of {X : Cx} {st : List Stmt} {t : TS} {σ : L2.St} {H : Hp} {D : Ends} (h : PSs X st t) (ht : t D σ H) : RunB X st D σ H := ⟨fun pins s I => h.run pins s σ H D I ht⟩
section
variable (K : PySem.W.Frag) (G : Nat → Addr)
def Post {α β : Type} (R : Wd → Wd → β → α → Prop) (w : Wd) (σ : L2.St) (W : WX) (o : Out α) (Q : β → Hp → Prop) : Prop :=
  match o with
  | .ok a st' => ∀ u w', Rel K G w' st' σ → Step w w' → R w w' u a → Q u w'.H
  | .exc x st' => ∀ c d w', Rel K G w' st' σ → Step w w' → ExR K G w' c d x → W c d σ w'.H
  | .bad => False
abbrev RV : Wd → Wd → V → Sl → Prop := FrR K G
abbrev RD : Wd → Wd → V → D → Prop := fun _ w' u d => Rep K G w'.F u d
abbrev RT : Wd → Wd → Bool → Bool → Prop := fun _ _ u b => u = b
abbrev RL : Wd → Wd → List V → List D → Prop := fun _ w' u d => RepBL K G w' u d
def Older {α β : Type} (R : Wd → Wd → β → α → Prop) : Prop := ∀ w w1 w' u a, Step w w1 → R w1 w' u a → R w w' u a
def Snd {α β : Type} (run : L2.St → Hp → (β → Hp → Prop) → Prop) (R : Wd → Wd → β → α → Prop) (W : WX) (m : M α) : Prop :=
  ∀ w st σ Q, Rel K G w st σ → Post K G R w σ W (m st) Q → run σ w.H Q
end
section
variable {K : PySem.W.Frag} {G : Nat → Addr} {α β γ δ : Type} {R : Wd → Wd → β → α → Prop} {R2 : Wd → Wd → δ → γ → Prop} {w w1 w' : Wd} {st : Env} {σ : L2.St} {W : WX}
theorem older_V : Older (RV K G) := by
  intro w w1 w' u a s h
  cases a with
  | un => exact h
  | fz d => exact h
  | ml xs => obtain ⟨a, vs, e, n, r⟩ := h; exact ⟨a, vs, e, s.d a n, r⟩
  | md xs => obtain ⟨a, vs, e, n, r⟩ := h; exact ⟨a, vs, e, s.d a n, r⟩
  | mi c xs => obtain ⟨a, dx, vs, e, n, r⟩ := h; exact ⟨a, dx, vs, e, s.d a n, r⟩
theorem older_D : Older (RD K G) := fun _ _ _ _ _ _ h => h
theorem older_T : Older RT := fun _ _ _ _ _ _ h => h
theorem older_L : Older (RL K G) := fun _ _ _ _ _ _ h => h
theorem Post.shift {o : Out α} {Q : β → Hp → Prop} (ok1 : w1.Ok) (s : Step w w1) (hR : Older R) (h : Post K G R w σ W o Q) : Post K G R w1 σ W o Q := by
  cases o with
  | ok a st' => exact fun u w' r s' q => h u w' r (s.trans ok1 r.ok s') (hR _ _ _ _ _ s q)
  | exc x st' => exact fun c d w' r s' q => h c d w' r (s.trans ok1 r.ok s') q
  | bad => exact h
theorem Post.mono {o : Out α} {Q Q' : β → Hp → Prop} (h : Post K G R w σ W o Q) (hq : ∀ u H, Q u H → Q' u H) : Post K G R w σ W o Q' := by
  cases o with
  | ok a st' => exact fun u w' r s' q => hq _ _ (h u w' r s' q)
  | exc x st' => exact h
  | bad => exact h
theorem Snd.bind {run1 : L2.St → Hp → (β → Hp → Prop) → Prop} {m : M α} {f : α → M γ} {Q : δ → Hp → Prop} {Q1 : β → Hp → Prop}
    (h1 : Snd K G run1 R W m) (hR2 : Older R2) (r : Rel K G w st σ) (p : Post K G R2 w σ W (bindM m f st) Q)
    (h2 : ∀ a u w1 st1, Rel K G w1 st1 σ → Step w w1 → R w w1 u a → Post K G R2 w1 σ W (f a st1) Q → Q1 u w1.H) : run1 σ w.H Q1 := by
  refine h1 w st σ Q1 r ?_
  unfold bindM at p
  cases e : m st with
  | ok a st1 =>
    rw [e] at p
    exact fun u w1 r1 s1 q1 => h2 a u w1 st1 r1 s1 q1 (Post.shift r1.ok s1 hR2 p)
  | exc x st1 =>
    rw [e] at p
    exact p
  | bad =>
    rw [e] at p
    exact p
end
section
variable (G : Nat → Addr) (X : Cx) (W : WX)
def SndV (e : Expr) (m : M Sl) : Prop := Snd X.K G (RunE X e) (RV X.K G) W m
def SndD (e : Expr) (m : M D) : Prop := Snd X.K G (RunE X e) (RD X.K G) W m
def SndT (e : Expr) (m : M Bool) : Prop := Snd X.K G (RunT X e) RT W m
def SndW (e : Expr) (m : M Bool) : Prop := Snd X.K G (RunW X e) RT W m
def SndL (es : List Expr) (m : M (List D)) : Prop := Snd X.K G (RunL X es) (RL X.K G) W m
end
def frzM (m : M Sl) : M D := fun st => match m st with
  | .ok .un _ => .bad
  | .ok v st' => .ok v.toD st'
  | .exc x st' => .exc x st'
  | .bad => .bad
def fzM (m : M D) : M Sl := fun st => match m st with
  | .ok d st' => .ok (.fz d) st'
  | .exc x st' => .exc x st'
  | .bad => .bad
section
variable {K : PySem.W.Frag} {G : Nat → Addr} {X : Cx} {W : WX} {e : Expr} {w w0 w' : Wd} {st : Env} {σ : L2.St}
theorem Rel.ice_new (R : Rel K G w st σ) {a : Addr} {o : HO} (h : w.H a = some o) (hk : w.k a = .oth) (hp : Pl o := by first | assumption | exact ⟨fun _ z => (by cases z), fun _ _ z => (by unfold LamX.CodeO at z; cases z)⟩) : Rel K G (w.ice a o) st σ :=
  ⟨Wd.ice_ok R.ok h, R.len, fun i s e => let ⟨x, q, r⟩ := R.at_ i s e; ⟨x, q, r.ice R.ok h (by rw [hk]; intro z; cases z)⟩, R.tk.upd (a := a) (by rw [hk]; intro q z; cases z) rfl⟩
theorem Rel.lck_new (R : Rel K G w st σ) {a : Addr} {o : HO} (hk : w.k a = .oth) (hp : Pl o := by first | assumption | exact ⟨fun _ z => (by cases z), fun _ _ z => (by unfold LamX.CodeO at z; cases z)⟩) : Rel K G (w.lck a o) st σ :=
  ⟨Wd.lck_ok R.ok, R.len, fun i s e => let ⟨x, q, r⟩ := R.at_ i s e; ⟨x, q, r.lck R.ok (by rw [hk]; intro z; cases z) (by rw [hk]; intro z; cases z)⟩, R.tk.upd (a := a) (by rw [hk]; intro q z; cases z) rfl⟩
theorem FrR.ice {u : V} {v : Sl} {Q : VK} (R : Rel K G w' st σ) (s : Step w w') (h : FrR K G w w' u v) (hQ : ∀ w2, Rel K G w2 st σ → Step w w2 → Rep K G w2.F u v.toD → Q u w2.H) :
    Q u w'.H ∨ ∃ a o, w'.H a = some o ∧ Mut (some o) ∧ ∀ od, Q u (upd w'.H a (.frz od o)) := by
  cases v with
  | un => exact h.elim
  | fz d => exact .inl (hQ w' R s h)
  | ml xs =>
    obtain ⟨a, vs, rfl, n, k, q, r⟩ := h
    exact .inl (hQ (w'.ice a _) (R.ice_new q k) (Wd.ice_step R.ok q (.inl n) s) (.lst upd_same (r.mono (Wd.ice_same R.ok q))))
  | md xs =>
    obtain ⟨a, vs, rfl, n, k, q, r⟩ := h
    have kf : w'.k a ≠ .frz := by rw [k]; intro z; cases z
    exact .inr ⟨a, _, q, trivial, fun od => hQ (w'.lck a (.frz od (.dK vs))) (R.lck_new k) (Wd.lck_step R.ok kf (.inl n) s) (.dct upd_same (r.mono (Wd.lck_same R.ok kf)))⟩
  | mi c xs =>
    obtain ⟨a, dx, vs, rfl, n, k, q, r⟩ := h
    exact .inl (hQ (w'.ice a _) (R.ice_new q k) (Wd.ice_step R.ok q (.inl n) s) (.ins upd_same (r.mono (Wd.ice_same R.ok q))))
theorem snd_frz {m : M Sl} (h : SndV G X W e m) : SndD G X W e (frzM m) := by
  intro w st σ Q r p
  refine RunE.lk (h w st σ _ r ?_)
  unfold frzM at p
  cases q : m st with
  | ok v st' =>
    rw [q] at p
    intro u w' r' s' f
    refine f.ice r' s' fun w2 r2 s2 q2 => ?_
    cases v with
    | un => exact f.elim
    | _ => exact p u w2 r2 s2 q2
  | exc x st' => rw [q] at p; exact p
  | bad => rw [q] at p; exact p
theorem snd_fz {m : M D} (h : SndD G X W e m) : SndV G X W e (fzM m) := by
  intro w st σ Q r p
  refine h w st σ Q r ?_
  unfold fzM at p
  cases q : m st with
  | ok v st' => rw [q] at p; exact fun u w' r' s' f => p u w' r' s' f
  | exc x st' => rw [q] at p; exact p
  | bad => rw [q] at p; exact p
theorem snd_int {i : Int} {j pos} : SndD G X W (.Constant (.int i) j pos) (pureM (.int i)) := fun w st σ Q r p => RunE.of pe_int (p _ w r (Step.refl w) (.int i))
theorem snd_bl {b : Bool} {j pos} : SndD G X W (.Constant (.bool b) j pos) (pureM (.bl b)) := fun w st σ Q r p => RunE.of pe_bl (p _ w r (Step.refl w) (.bl b))
theorem snd_non {j pos} : SndD G X W (.Constant .none j pos) (pureM .non) := fun w st σ Q r p => RunE.of pe_non (p _ w r (Step.refl w) .non)
theorem snd_str {x : Str} {cs : List Nat} {j pos} (h : x = ⟨cs.toArray⟩) : SndD G X W (.Constant (.str x) j pos) (pureM (.str cs)) := fun w st σ Q r p => by
  subst h
  exact RunE.of pe_str (p _ w r (Step.refl w) (.str cs))
def nameM (i : Nat) : M D := fun st => match st[i]? with
  | some .un => .bad
  | some (.fz d) => .ok d st
  | some s => .ok s.toD (st.set i (.fz s.toD))
  | none => .bad
theorem set_at {α : Type} {l : List α} {i j : Nat} {x y : α} (h : (l.set i x)[j]? = some y) : (j = i ∧ y = x) ∨ (j ≠ i ∧ l[j]? = some y) := by
  by_cases q : j = i
  · subst q
    by_cases hl : j < l.length
    · rw [List.getElem?_set_self hl] at h; exact .inl ⟨rfl, (Option.some.inj h).symm⟩
    · rw [List.getElem?_eq_none (by simpa using hl)] at h; cases h
  · rw [List.getElem?_set_ne (Ne.symm q)] at h; exact .inr ⟨q, h⟩
theorem Rel.ice_own (R : Rel K G w st σ) {i : Nat} {a : Addr} {o : HO} {d : D} (h : w.H a = some o) (hk : w.k a = .own i) (hσ : σ[i]? = some (some (.ref a))) (hd : Rep K G (w.ice a o).F (.ref a) d) (hp : Pl o := by first | assumption | exact ⟨fun _ z => (by cases z), fun _ _ z => (by unfold LamX.CodeO at z; cases z)⟩) :
    Rel K G (w.ice a o) (st.set i (.fz d)) σ := by
  refine ⟨Wd.ice_ok R.ok h, by rw [List.length_set]; exact R.len, fun j s e => ?_, R.tk.upd (a := a) (by rw [hk]; intro q z; cases z) rfl⟩
  rcases set_at e with ⟨rfl, rfl⟩ | ⟨n, e⟩
  · exact ⟨_, hσ, _, rfl, hd⟩
  · obtain ⟨x, q, r⟩ := R.at_ j s e
    exact ⟨x, q, r.ice R.ok h (by rw [hk]; intro z; cases z; exact n rfl)⟩
theorem Rel.lck_own (R : Rel K G w st σ) {i : Nat} {a : Addr} {o : HO} {d : D} (hk : w.k a = .own i) (hσ : σ[i]? = some (some (.ref a))) (hd : Rep K G (w.lck a o).F (.ref a) d) (hp : Pl o := by first | assumption | exact ⟨fun _ z => (by cases z), fun _ _ z => (by unfold LamX.CodeO at z; cases z)⟩) :
    Rel K G (w.lck a o) (st.set i (.fz d)) σ := by
  refine ⟨Wd.lck_ok R.ok, by rw [List.length_set]; exact R.len, fun j s e => ?_, R.tk.upd (a := a) (by rw [hk]; intro q z; cases z) rfl⟩
  rcases set_at e with ⟨rfl, rfl⟩ | ⟨n, e⟩
  · exact ⟨_, hσ, _, rfl, hd⟩
  · obtain ⟨x, q, r⟩ := R.at_ j s e
    exact ⟨x, q, r.lck R.ok (by rw [hk]; intro z; cases z) (by rw [hk]; intro z; cases z; exact n rfl)⟩
theorem snd_name {i : Nat} {x : Str} {pos : Pos} (hN : X.N[i]? = some x := by rfl) (hv : Vis X.env.scope x := by first | exact Or.inl rfl | exact Or.inr (Or.inl rfl) | exact Or.inr (Or.inr rfl))
    (hd : (x == ("__debug__" : Str)) = false := by decide) (hcd : (x == ("__classdict__" : Str)) = false := by decide) : SndD G X W (.Name x pos) (nameM i) := by
  intro w st σ Q r p
  unfold nameM at p
  cases e : st[i]? with
  | none => rw [e] at p; exact p.elim
  | some s =>
    rw [e] at p
    obtain ⟨y, hy, q⟩ := r.at_ i s e
    have go : ∀ v, y = some v → Q v w.H → RunE X (.Name x pos) σ w.H Q := fun v ev hq => RunE.of (pe_var hN hv hd hcd) ⟨v, by rw [hy, ev], hq⟩
    cases s with
    | un => exact p.elim
    | fz d =>
      obtain ⟨v, rfl, q⟩ := q
      exact go v rfl (p v w r (Step.refl w) q)
    | ml xs =>
      obtain ⟨a, vs, rfl, k, h, q⟩ := q
      have z : Rep X.K G (w.ice a (.lst vs)).F (.ref a) (.lst xs) := .lst upd_same (q.mono (Wd.ice_same r.ok h))
      exact go _ rfl (p (.ref a) (w.ice a _) (r.ice_own h k hy z) (Wd.ice_step r.ok h (.inr (by rw [k]; intro z; cases z)) (Step.refl w)) z)
    | md xs =>
      obtain ⟨a, vs, rfl, k, h, q⟩ := q
      have kf : w.k a ≠ .frz := by rw [k]; intro z; cases z
      refine RunE.lk (RunE.of (pe_var hN hv hd hcd) ⟨.ref a, by rw [hy], .inr ⟨a, _, h, trivial, fun od => ?_⟩⟩)
      have z : Rep X.K G (w.lck a (.frz od (.dK vs))).F (.ref a) (.dct xs) := .dct upd_same (q.mono (Wd.lck_same r.ok kf))
      exact p (.ref a) (w.lck a _) (r.lck_own k hy z) (Wd.lck_step r.ok kf (.inr (by rw [k]; intro z; cases z)) (Step.refl w)) z
    | mi c xs =>
      obtain ⟨a, dx, vs, rfl, k, h, q⟩ := q
      have z : Rep X.K G (w.ice a (.ins (G c) dx vs)).F (.ref a) (.ins c xs) := .ins upd_same (q.mono (Wd.ice_same r.ok h))
      exact go _ rfl (p (.ref a) (w.ice a _) (r.ice_own h k hy z) (Wd.ice_step r.ok h (.inr (by rw [k]; intro z; cases z)) (Step.refl w)) z)
def nilL : M (List D) := pureM []
def consL (m : M D) (ml : M (List D)) : M (List D) := bindM m fun d => bindM ml fun ds => pureM (d :: ds)
def seeM (i : Nat) : M D := fun st => match st[i]? with
  | some .un => .bad
  | some s => .ok s.toD st
  | none => .bad
def consN (i : Nat) (ml : M (List D)) : M (List D) := fun st => match st[i]? with
  | some .un => .bad
  | some _ => (ml st).bind fun ds => bindM (seeM i) fun d => pureM (d :: ds)
  | none => .bad
theorem sl_nil : SndL G X W [] nilL := fun w st σ Q r p => p [] w r (Step.refl w) .nil
theorem sl_cons {es : List Expr} {m : M D} {ml : M (List D)} (h : SndD G X W e m) (hl : SndL G X W es ml) : SndL G X W (e :: es) (consL m ml) := by
  intro w st σ Q r p
  show RunE X e σ w.H _
  refine Snd.bind (run1 := RunE X e) h older_L r p fun d u w1 st1 r1 s1 q1 p1 => ?_
  refine Snd.bind (run1 := RunL X es) hl older_L r1 p1 fun ds us w2 st2 r2 s2 q2 p2 => ?_
  exact p2 (u :: us) w2 r2 (Step.refl w2) (.cons (.fz (q1.mono s2.f)) q2)
theorem see_rel {i : Nat} {s : Sl} (r : Rel K G w st σ) (e : st[i]? = some s) (hs : s ≠ .un) : ∃ v, σ[i]? = some (some v) ∧ RepB K G w v s.toD := by
  obtain ⟨y, hy, q⟩ := r.at_ i s e
  cases s with
  | un => exact absurd rfl hs
  | fz d => obtain ⟨v, rfl, q⟩ := q; exact ⟨v, hy, .fz q⟩
  | ml xs => obtain ⟨a, vs, rfl, k, h, q⟩ := q; exact ⟨_, hy, .ml h q⟩
  | md xs => obtain ⟨a, vs, rfl, k, h, q⟩ := q; exact ⟨_, hy, .md h q⟩
  | mi c xs => obtain ⟨a, dx, vs, rfl, k, h, q⟩ := q; exact ⟨_, hy, .mi h q⟩
theorem sl_name {es : List Expr} {ml : M (List D)} {i : Nat} {x : Str} {pos : Pos} (hl : SndL G X W es ml) (hN : X.N[i]? = some x := by rfl) (hv : Vis X.env.scope x := by first | exact Or.inl rfl | exact Or.inr (Or.inl rfl) | exact Or.inr (Or.inr rfl))
    (hd : (x == ("__debug__" : Str)) = false := by decide) (hcd : (x == ("__classdict__" : Str)) = false := by decide) : SndL G X W (.Name x pos :: es) (consN i ml) := by
  intro w st σ Q r p
  have fin : ∀ v, σ[i]? = some (some v) → RunL X es σ w.H (fun xs H2 => Q (v :: xs) H2) → RunL X (.Name x pos :: es) σ w.H Q := fun v ev hq => RunE.of (pe_var hN hv hd hcd) ⟨v, ev, hq⟩
  unfold consN at p
  cases e : st[i]? with
  | none => rw [e] at p; exact p.elim
  | some s0 =>
    rw [e] at p
    have ns : s0 ≠ .un := by rintro rfl; exact p
    have p' : Post X.K G (RL X.K G) w σ W (bindM ml (fun ds => bindM (seeM i) fun d => pureM (d :: ds)) st) Q := by
      cases s0 <;> first | exact p | exact absurd rfl ns
    obtain ⟨v, ev, _⟩ := see_rel r e ns
    refine fin v ev (Snd.bind (run1 := RunL X es) hl older_L r p' fun ds us w2 st2 r2 s2 q2 p2 => ?_)
    unfold bindM seeM at p2
    cases e2 : st2[i]? with
    | none => rw [e2] at p2; exact p2.elim
    | some s2' =>
      rw [e2] at p2
      have ns2 : s2' ≠ .un := by rintro rfl; exact p2
      obtain ⟨v2, ev2, b2⟩ := see_rel r2 e2 ns2
      rw [ev] at ev2
      cases ev2
      have p3 : Post X.K G (RL X.K G) w2 σ W (.ok (s2'.toD :: ds) st2) Q := by
        cases s2' <;> first | exact p2 | exact absurd rfl ns2
      exact p3 (v :: us) w2 r2 (Step.refl w2) (.cons b2 q2)
end
end Rz
namespace Rz
open PySem PySem.Spec PyProof.Rows L2
section
variable (K : PySem.W.Frag) (G : Nat → Addr)
def Giv (w : Wd) (z : D) (Q : VK) : Prop := ∀ u w', Grw w w' → w'.Ok → Rep K G w'.F u z → Q u w'.H
def GivV (w : Wd) (z : Sl) (Q : VK) : Prop := ∀ u w', Grw w w' → w'.Ok → FrR K G w w' u z → Q u w'.H
def rG (g : D → D → Option D) : R2 := fun x y H Q => ∃ w a b z, w.H = H ∧ w.Ok ∧ RepB K G w x a ∧ RepB K G w y b ∧ g a b = some z ∧ Giv K G w z Q
def cG (g : List D → Option D) : List V → Hp → VK → Prop := fun xs H Q => ∃ w ds z, w.H = H ∧ w.Ok ∧ RepBL K G w xs ds ∧ g ds = some z ∧ Giv K G w z Q
def cV (g : List D → Option Sl) : List V → Hp → VK → Prop := fun xs H Q => ∃ w ds z, w.H = H ∧ w.Ok ∧ RepBL K G w xs ds ∧ g ds = some z ∧ GivV K G w z Q
def uG (g : D → Option D) : V → Hp → VK → Prop := fun x H Q => ∃ w a z, w.H = H ∧ w.Ok ∧ RepB K G w x a ∧ g a = some z ∧ Giv K G w z Q
end
abbrev OpS (X : Cx) (G : Nat → Addr) (f : Value → Value → Sem Value) (g : D → D → Option D) : Prop := OpR X f (rG X.K G g)
abbrev UnS (X : Cx) (G : Nat → Addr) (f : Value → Sem Value) (g : D → Option D) : Prop := UnR X f (uG X.K G g)
abbrev CallS (X : Cx) (G : Nat → Addr) (f : Value) (g : List D → Option D) : Prop := CallR X f (cG X.K G g)
abbrev CallV (X : Cx) (G : Nat → Addr) (f : Value) (g : List D → Option Sl) : Prop := CallR X f (cV X.K G g)
def op2M (g : D → D → Option D) (ml : M (List D)) : M D := bindM ml fun ds => match ds with
  | [x, y] => liftM (g x y)
  | _ => badM
def op1M (g : D → Option D) (ml : M (List D)) : M D := bindM ml fun ds => match ds with
  | [x] => liftM (g x)
  | _ => badM
def fnM (g : List D → Option D) (ml : M (List D)) : M D := bindM ml fun ds => liftM (g ds)
def fnV (g : List D → Option Sl) (ml : M (List D)) : M Sl := bindM ml fun ds => liftM (g ds)
section
variable {G : Nat → Addr} {X : Cx} {W : WX} {w w' : Wd} {st : Env} {σ : L2.St} {a b c e : Expr} {es : List Expr} {pos : Pos}
theorem pal_nil : PA X [] (RunL X []) := pa_nil
theorem pal_cons (h : PA X es (RunL X es)) (hs : starEach (e :: es) X.env = (false, eval e X.env) :: starEach es X.env := by rfl) : PA X (e :: es) (RunL X (e :: es)) := pa_cons pe_run h hs
theorem giv_of {z : D} {Q : VK} (r : Rel X.K G w st σ) (p : Post X.K G (RD X.K G) w σ W (.ok z st) Q) : Giv X.K G w z Q := fun u w' g ok' f => p u w' (r.grow ok' g) (g.step r.ok) f
theorem givV_of {z : Sl} {Q : VK} (r : Rel X.K G w st σ) (p : Post X.K G (RV X.K G) w σ W (.ok z st) Q) : GivV X.K G w z Q := fun u w' g ok' f => p u w' (r.grow ok' g) (g.step r.ok) f
theorem snd_bin {op : Operator} {g : D → D → Option D} {ml : M (List D)} (ho : OpS X G (binaryOp op) g) (hl : SndL G X W [a, b] ml) : SndD G X W (.BinOp a op b pos) (op2M g ml) := by
  intro w st σ Q r p
  refine RunE.of (pe_op ho pe_run pe_run) ?_
  have h := Snd.bind (run1 := RunL X [a, b]) (Q1 := fun vs H => match vs with | [x, y] => rG X.K G g x y H Q | _ => False) hl older_D r p fun ds us w1 st1 r1 s1 q1 p1 => ?_
  · exact h
  · cases q1 with
    | nil => exact p1.elim
    | cons b1 q1 =>
      cases q1 with
      | nil => exact p1.elim
      | cons b2 q1 =>
        cases q1 with
        | nil =>
          rename_i x d y d'
          cases eg : g d d' with
          | none =>
            have p2 : Post X.K G (RD X.K G) w1 σ W ((liftM (g d d') : M D) st1) Q := p1
            rw [eg] at p2
            exact p2.elim
          | some z =>
            have p2 : Post X.K G (RD X.K G) w1 σ W ((liftM (g d d') : M D) st1) Q := p1
            rw [eg] at p2
            exact ⟨w1, d, d', z, rfl, r1.ok, b1, b2, eg, giv_of r1 p2⟩
        | cons _ _ => exact p1.elim
theorem snd_un {op : UnaryOp} {g : D → Option D} {ml : M (List D)} (ho : UnS X G (unaryOp op) g) (hl : SndL G X W [a] ml) : SndD G X W (.UnaryOp op a pos) (op1M g ml) := by
  intro w st σ Q r p
  refine RunE.of (pe_un ho pe_run) ?_
  have h := Snd.bind (run1 := RunL X [a]) (Q1 := fun vs H => match vs with | [x] => uG X.K G g x H Q | _ => False) hl older_D r p fun ds us w1 st1 r1 s1 q1 p1 => ?_
  · exact h
  · cases q1 with
    | nil => exact p1.elim
    | cons b1 q1 =>
      cases q1 with
      | nil =>
        rename_i x d
        have p2 : Post X.K G (RD X.K G) w1 σ W ((liftM (g d) : M D) st1) Q := p1
        cases eg : g d with
        | none => rw [eg] at p2; exact p2.elim
        | some z =>
          rw [eg] at p2
          exact ⟨w1, d, z, rfl, r1.ok, b1, eg, giv_of r1 p2⟩
      | cons _ _ => exact p1.elim
def tstM (m : M D) : M Bool := fun st => match m st with
  | .ok (.bl b) st' => .ok b st'
  | .ok _ _ => .bad
  | .exc x st' => .exc x st'
  | .bad => .bad
theorem snd_cmp {op : CmpOp} {g : D → D → Option D} {ml : M (List D)} (ho : OpS X G (compareOp op) g) (hm : behindInMarks op b = false) (hl : SndL G X W [a, b] ml) : SndD G X W (.Compare a [op] [b] pos) (op2M g ml) := by
  intro w st σ Q r p
  refine RunE.of (pe_cmpR ho pe_run pe_run hm) ?_
  have h := Snd.bind (run1 := RunL X [a, b]) (Q1 := fun vs H => match vs with | [x, y] => rG X.K G g x y H Q | _ => False) hl older_D r p fun ds us w1 st1 r1 s1 q1 p1 => ?_
  · exact h
  · cases q1 with
    | nil => exact p1.elim
    | cons b1 q1 =>
      cases q1 with
      | nil => exact p1.elim
      | cons b2 q1 =>
        cases q1 with
        | nil =>
          rename_i x d y d'
          have p2 : Post X.K G (RD X.K G) w1 σ W ((liftM (g d d') : M D) st1) Q := p1
          cases eg : g d d' with
          | none => rw [eg] at p2; exact p2.elim
          | some z =>
            rw [eg] at p2
            exact ⟨w1, d, d', z, rfl, r1.ok, b1, b2, eg, giv_of r1 p2⟩
        | cons _ _ => exact p1.elim
theorem snd_tcmp {op : CmpOp} {g : D → D → Option D} {ml : M (List D)} (ho : OpS X G (compareOp op) g) (hm : behindInMarks op b = false) (hl : SndL G X W [a, b] ml) : SndT G X W (.Compare a [op] [b] pos) (tstM (op2M g ml)) := by
  intro w st σ Q r p
  refine RunT.of (pt_cmpR ho pe_run pe_run hm) ?_
  have p' : Post X.K G (RD X.K G) w σ W (op2M g ml st) (fun x H => ∃ k, x = .bl k ∧ Q k H) := by
    unfold tstM at p
    cases e : op2M g ml st with
    | bad => rw [e] at p; exact p
    | exc x st' => rw [e] at p; exact p
    | ok v st' =>
      rw [e] at p
      intro u w' r' s' f
      cases v with
      | bl b =>
        cases (show Rep X.K G w'.F u (.bl b) from f)
        exact ⟨b, rfl, p b w' r' s' rfl⟩
      | _ => exact p.elim
  have h := Snd.bind (run1 := RunL X [a, b]) (Q1 := fun vs H => match vs with | [x, y] => rG X.K G g x y H (fun x H => ∃ k, x = .bl k ∧ Q k H) | _ => False) hl older_D r p' fun ds us w1 st1 r1 s1 q1 p1 => ?_
  · exact h
  · cases q1 with
    | nil => exact p1.elim
    | cons b1 q1 =>
      cases q1 with
      | nil => exact p1.elim
      | cons b2 q1 =>
        cases q1 with
        | nil =>
          rename_i x d y d'
          have p2 : Post X.K G (RD X.K G) w1 σ W ((liftM (g d d') : M D) st1) _ := p1
          cases eg : g d d' with
          | none => rw [eg] at p2; exact p2.elim
          | some z =>
            rw [eg] at p2
            exact ⟨w1, d, d', z, rfl, r1.ok, b1, b2, eg, giv_of r1 p2⟩
        | cons _ _ => exact p1.elim
theorem snd_callB {id : String} {g : List D → Option D} {ml : M (List D)} {x : Str} {p : Pos} (hc : CallS X G (.builtin id) g) (hg : Gl X x) (hm : X.mg x = none) (hv : bootBuiltins x = some (.builtin id)) (hl : SndL G X W (e :: es) ml)
    (ha : PA X (e :: es) (RunL X (e :: es))) (hn : x ≠ "__name__" := by decide) (hdb : (x == ("__debug__" : Str)) = false := by decide)
    (he : starEach (e :: es) X.env = (false, eval e X.env) :: starEach es X.env := by rfl) (hpl : (backTo pos (starEach es X.env)).any (·.1) = false := by rfl) : SndD G X W (.Call (.Name x p) (e :: es) [] pos) (fnM g ml) := by
  intro w st σ Q r p
  refine RunE.of (pe_callB hc hg hm hv ha hn hdb he hpl) ?_
  refine Snd.bind (run1 := RunL X (e :: es)) hl older_D r p fun ds us w1 st1 r1 s1 q1 p1 => ?_
  have p2 : Post X.K G (RD X.K G) w1 σ W ((liftM (g ds) : M D) st1) Q := p1
  cases eg : g ds with
  | none => rw [eg] at p2; exact p2.elim
  | some z => rw [eg] at p2; exact ⟨w1, ds, z, rfl, r1.ok, q1, eg, giv_of r1 p2⟩
theorem snd_callTy {T : String} {g : List D → Option D} {ml : M (List D)} {x : Str} {p : Pos} (hc : CallS X G (.type T) g) (hg : Gl X x) (hm : X.mg x = none) (hv : bootBuiltins x = some (.type T)) (hl : SndL G X W (e :: es) ml)
    (ha : PA X (e :: es) (RunL X (e :: es))) (hn : x ≠ "__name__" := by decide) (hdb : (x == ("__debug__" : Str)) = false := by decide)
    (he : starEach (e :: es) X.env = (false, eval e X.env) :: starEach es X.env := by rfl) (hpl : (backTo pos (starEach es X.env)).any (·.1) = false := by rfl) : SndD G X W (.Call (.Name x p) (e :: es) [] pos) (fnM g ml) := by
  intro w st σ Q r p
  refine RunE.of (pe_callTy hc hg hm hv ha hn hdb he hpl) ?_
  refine Snd.bind (run1 := RunL X (e :: es)) hl older_D r p fun ds us w1 st1 r1 s1 q1 p1 => ?_
  have p2 : Post X.K G (RD X.K G) w1 σ W ((liftM (g ds) : M D) st1) Q := p1
  cases eg : g ds with
  | none => rw [eg] at p2; exact p2.elim
  | some z => rw [eg] at p2; exact ⟨w1, ds, z, rfl, r1.ok, q1, eg, giv_of r1 p2⟩
theorem snd_callBV {id : String} {g : List D → Option Sl} {ml : M (List D)} {x : Str} {p : Pos} (hc : CallV X G (.builtin id) g) (hg : Gl X x) (hm : X.mg x = none) (hv : bootBuiltins x = some (.builtin id)) (hl : SndL G X W (e :: es) ml)
    (ha : PA X (e :: es) (RunL X (e :: es))) (hn : x ≠ "__name__" := by decide) (hdb : (x == ("__debug__" : Str)) = false := by decide)
    (he : starEach (e :: es) X.env = (false, eval e X.env) :: starEach es X.env := by rfl) (hpl : (backTo pos (starEach es X.env)).any (·.1) = false := by rfl) : SndV G X W (.Call (.Name x p) (e :: es) [] pos) (fnV g ml) := by
  intro w st σ Q r p
  refine RunE.of (pe_callB hc hg hm hv ha hn hdb he hpl) ?_
  refine Snd.bind (run1 := RunL X (e :: es)) hl older_V r p fun ds us w1 st1 r1 s1 q1 p1 => ?_
  have p2 : Post X.K G (RV X.K G) w1 σ W ((liftM (g ds) : M Sl) st1) Q := p1
  cases eg : g ds with
  | none => rw [eg] at p2; exact p2.elim
  | some z => rw [eg] at p2; exact ⟨w1, ds, z, rfl, r1.ok, q1, eg, givV_of r1 p2⟩
theorem snd_callTyV {T : String} {g : List D → Option Sl} {ml : M (List D)} {x : Str} {p : Pos} (hc : CallV X G (.type T) g) (hg : Gl X x) (hm : X.mg x = none) (hv : bootBuiltins x = some (.type T)) (hl : SndL G X W (e :: es) ml)
    (ha : PA X (e :: es) (RunL X (e :: es))) (hn : x ≠ "__name__" := by decide) (hdb : (x == ("__debug__" : Str)) = false := by decide)
    (he : starEach (e :: es) X.env = (false, eval e X.env) :: starEach es X.env := by rfl) (hpl : (backTo pos (starEach es X.env)).any (·.1) = false := by rfl) : SndV G X W (.Call (.Name x p) (e :: es) [] pos) (fnV g ml) := by
  intro w st σ Q r p
  refine RunE.of (pe_callTy hc hg hm hv ha hn hdb he hpl) ?_
  refine Snd.bind (run1 := RunL X (e :: es)) hl older_V r p fun ds us w1 st1 r1 s1 q1 p1 => ?_
  have p2 : Post X.K G (RV X.K G) w1 σ W ((liftM (g ds) : M Sl) st1) Q := p1
  cases eg : g ds with
  | none => rw [eg] at p2; exact p2.elim
  | some z => rw [eg] at p2; exact ⟨w1, ds, z, rfl, r1.ok, q1, eg, givV_of r1 p2⟩
def truD : D → Option Bool
  | .non => some false
  | .bl b => some b
  | .int i => some (i != 0)
  | .str s => if s.length ≤ 16777216 then some (!s.isEmpty) else none
  | .tup xs => some (!xs.isEmpty)
  | .lst xs => some (!xs.isEmpty)
  | .dct xs => none
  | .ins _ _ => none
  | .scr _ => none
def truM (m : M D) : M Bool := bindM m fun d => liftM (truD d)
theorem SqT.same {K : PySem.W.Frag} {F F' : Hp} {a : Addr} {vs : List V} (h : Same F F') (q : SqT K F a vs) : SqT K F' a vs := by
  rcases q with (q | ⟨o, q⟩) | q
  · exact .inl (.inl (h _ _ q))
  · exact .inl (.inr ⟨o, h _ _ q⟩)
  · exact .inr q
theorem isEmpty_of_len {α β : Type} {xs : List α} {ys : List β} (h : xs.length = ys.length) : xs.isEmpty = ys.isEmpty := by
  cases xs <;> cases ys <;> first | rfl | cases h
theorem tru_rep {K : PySem.W.Frag} (ok : w.Ok) {v : V} {d : D} {b : Bool} (h : Rep K G w.F v d) (t : truD d = some b) : TruV K v w.H b := by
  cases h with
  | non => cases t; rfl
  | bl b' => cases t; rfl
  | int i => cases t; rfl
  | str s =>
    have t' : (if s.length ≤ 16777216 then some (!s.isEmpty) else none) = some b := t
    by_cases hs : s.length ≤ 16777216
    · rw [if_pos hs] at t'
      cases t'
      refine ⟨by rw [sizeLine_eq]; simpa [Str.length] using hs, ?_⟩
      cases s with
      | nil => rfl
      | cons c r => simp [Str.length]; omega
    · rw [if_neg hs] at t'; cases t'
  | tup q r => cases t; exact .inr (.inl ⟨_, SqT.same ok.sub q, by rw [isEmpty_of_len r.length]⟩)
  | lst q r => cases t; exact .inl ⟨_, .inl (.inl (ok.sub _ _ q)), by rw [isEmpty_of_len r.length]⟩
  | dct q r => cases t
  | ins q r => cases t
  | scr q => cases t
theorem snd_tru {m : M D} (h : SndD G X W a m) (he : ∀ whole, isTrue a X.env whole = (do let v ← whole; standAt a.pos; holding [v] (truthy v)) := by intro _; rfl) : SndT G X W a (truM m) := by
  intro w st σ Q r p
  refine RunT.of (pt_truth pe_run he) ?_
  refine Snd.bind (run1 := RunE X a) h older_T r p fun d u w1 st1 r1 s1 q1 p1 => ?_
  have p2 : Post X.K G RT w1 σ W ((liftM (truD d) : M Bool) st1) Q := p1
  cases eg : truD d with
  | none => rw [eg] at p2; exact p2.elim
  | some b => rw [eg] at p2; exact ⟨b, tru_rep r1.ok q1 eg, p2 b w1 r1 (Step.refl _) rfl⟩
theorem snd_wt {m : M Bool} (h : SndW G X W a m) : SndT G X W a m := fun w st σ Q r p => RunT.of pw_run.pt (h w st σ Q r p)
def andM (a b : M Bool) : M Bool := bindM a fun x => if x = true then b else pureM false
def orM (a b : M Bool) : M Bool := bindM a fun x => if x = true then pureM true else b
def notM (a : M Bool) : M Bool := bindM a fun x => pureM (!x)
theorem snd_and1 {m : M Bool} (h : SndT G X W a m) : SndW G X W (.BoolOp .And [a] pos) m := fun w st σ Q r p => RunW.of (pw_and1 pt_run) (h w st σ Q r p)
theorem snd_or1 {m : M Bool} (h : SndT G X W a m) : SndW G X W (.BoolOp .Or [a] pos) m := fun w st σ Q r p => RunW.of (pw_or1 pt_run) (h w st σ Q r p)
theorem snd_and {rest : List Expr} {m m' : M Bool} (h : SndT G X W a m) (h' : SndW G X W (.BoolOp .And (b :: rest) pos) m') : SndW G X W (.BoolOp .And (a :: b :: rest) pos) (andM m m') := by
  intro w st σ Q r p
  refine RunW.of (pw_and pt_run pw_run) ?_
  refine Snd.bind (run1 := RunT X a) h older_T r p fun d u w1 st1 r1 s1 q1 p1 => ?_
  subst q1
  cases u with
  | true => exact iteT (h' w1 st1 σ Q r1 p1)
  | false => exact iteF (p1 false w1 r1 (Step.refl _) rfl)
theorem snd_or {rest : List Expr} {m m' : M Bool} (h : SndT G X W a m) (h' : SndW G X W (.BoolOp .Or (b :: rest) pos) m') : SndW G X W (.BoolOp .Or (a :: b :: rest) pos) (orM m m') := by
  intro w st σ Q r p
  refine RunW.of (pw_or pt_run pw_run) ?_
  refine Snd.bind (run1 := RunT X a) h older_T r p fun d u w1 st1 r1 s1 q1 p1 => ?_
  subst q1
  cases u with
  | true => exact iteT (p1 true w1 r1 (Step.refl _) rfl)
  | false => exact iteF (h' w1 st1 σ Q r1 p1)
theorem snd_not {m : M Bool} (h : SndT G X W a m) : SndT G X W (.UnaryOp .Not a pos) (notM m) := by
  intro w st σ Q r p
  refine RunT.of (pt_not pt_run) ?_
  refine Snd.bind (run1 := RunT X a) h older_T r p fun d u w1 st1 r1 s1 q1 p1 => ?_
  subst q1
  exact p1 (!u) w1 r1 (Step.refl _) rfl
def blD (m : M D) : M Bool := bindM m fun d => match d with
  | .bl b => pureM b
  | _ => badM
theorem post_bl {K : PySem.W.Frag} {m : M D} {Q : Bool → Hp → Prop} {W : WX} (p : Post K G RT w σ W (blD m st) Q) : Post K G (RD K G) w σ W (m st) (fun x H => ∃ k, x = .bl k ∧ Q k H) := by
  unfold blD bindM at p
  cases e : m st with
  | bad => rw [e] at p; exact p
  | exc x s => rw [e] at p; exact p
  | ok d s =>
    rw [e] at p
    intro u w' r' s' f
    cases d with
    | bl b =>
      cases (show Rep K G w'.F u (.bl b) from f)
      exact ⟨b, rfl, p b w' r' s' rfl⟩
    | _ => exact p.elim
def andV (m : M D) (m' : M D) : M D := bindM (blD m) fun x => if x = true then m' else pureM (.bl false)
def orV (m : M D) (m' : M D) : M D := bindM (blD m) fun x => if x = true then pureM (.bl true) else m'
def notV (m : M D) : M D := bindM (blD m) fun x => pureM (.bl (!x))
theorem snd_blD {m : M D} (h : SndD G X W a m) : Snd X.K G (fun σ H (Q : Bool → Hp → Prop) => RunE X a σ H fun x H1 => ∃ k, x = .bl k ∧ Q k H1) RT W (blD m) := fun w st σ Q r p => h w st σ _ r (post_bl p)
theorem snd_oneV {op : BoolOp} {m : M D} (h : SndD G X W a m) : SndD G X W (.BoolOp op [a] pos) m := fun w st σ Q r p => RunE.of (pe_one pe_run) (h w st σ Q r p)
theorem snd_andV {rest : List Expr} {m m' : M D} (h : SndD G X W a m) (h' : SndD G X W (.BoolOp .And (b :: rest) pos) m') : SndD G X W (.BoolOp .And (a :: b :: rest) pos) (andV m m') := by
  intro w st σ Q r p
  refine RunE.of (pe_and pe_run pe_run) ?_
  refine Snd.bind (snd_blD h) older_D r p (Q1 := fun k H1 => if k = true then RunE X (.BoolOp .And (b :: rest) pos) σ H1 Q else Q (.bl false) H1) fun d u w1 st1 r1 s1 q1 p1 => ?_
  subst q1
  cases u with
  | true => exact iteT (h' w1 st1 σ Q r1 p1)
  | false => exact iteF (p1 _ w1 r1 (Step.refl _) (.bl false))
theorem snd_orV {rest : List Expr} {m m' : M D} (h : SndD G X W a m) (h' : SndD G X W (.BoolOp .Or (b :: rest) pos) m') : SndD G X W (.BoolOp .Or (a :: b :: rest) pos) (orV m m') := by
  intro w st σ Q r p
  refine RunE.of (pe_or pe_run pe_run) ?_
  refine Snd.bind (snd_blD h) older_D r p (Q1 := fun k H1 => if k = true then Q (.bl true) H1 else RunE X (.BoolOp .Or (b :: rest) pos) σ H1 Q) fun d u w1 st1 r1 s1 q1 p1 => ?_
  subst q1
  cases u with
  | true => exact iteT (p1 _ w1 r1 (Step.refl _) (.bl true))
  | false => exact iteF (h' w1 st1 σ Q r1 p1)
theorem snd_notV {m : M D} (h : SndD G X W a m) : SndD G X W (.UnaryOp .Not a pos) (notV m) := by
  intro w st σ Q r p
  refine RunE.of (pe_not pe_run) ?_
  refine Snd.bind (snd_blD h) older_D r p (Q1 := fun k H1 => Q (.bl (!k)) H1) fun d u w1 st1 r1 s1 q1 p1 => ?_
  subst q1
  exact p1 _ w1 r1 (Step.refl _) (.bl _)
def iteM {α : Type} (c : M Bool) (a b : M α) : M α := bindM c fun x => if x = true then a else b
theorem snd_iteD {m : M Bool} {ma mb : M D} (hc : SndT G X W c m) (ha : SndD G X W a ma) (hb : SndD G X W b mb) : SndD G X W (.IfExp c a b pos) (iteM m ma mb) := by
  intro w st σ Q r p
  refine RunE.of (pe_ifExp pt_run pe_run pe_run) ?_
  refine Snd.bind (run1 := RunT X c) hc older_D r p fun d u w1 st1 r1 s1 q1 p1 => ?_
  subst q1
  cases u with
  | true => exact iteT (ha w1 st1 σ Q r1 p1)
  | false => exact iteF (hb w1 st1 σ Q r1 p1)
theorem snd_ite {m : M Bool} {ma mb : M Sl} (hc : SndT G X W c m) (ha : SndV G X W a ma) (hb : SndV G X W b mb) : SndV G X W (.IfExp c a b pos) (iteM m ma mb) := by
  intro w st σ Q r p
  refine RunE.of (pe_ifExp pt_run pe_run pe_run) ?_
  refine Snd.bind (run1 := RunT X c) hc older_V r p fun d u w1 st1 r1 s1 q1 p1 => ?_
  subst q1
  cases u with
  | true => exact iteT (ha w1 st1 σ Q r1 p1)
  | false => exact iteF (hb w1 st1 σ Q r1 p1)
def frzL (ds : List D) : Option (List D) := if ds.length ≤ 16777216 then some ds else none
def tupM (ml : M (List D)) : M D := bindM ml fun ds => liftM ((frzL ds).map .tup)
def lstM (ml : M (List D)) : M Sl := bindM ml fun ds => liftM ((frzL ds).map .ml)
end
end Rz
namespace Rz
open PySem PySem.Spec PyProof.Rows L2
mutual
def D.py : D → PyData
  | .non => .none
  | .bl b => .bool b
  | .int i => .int i
  | .str s => .str ⟨s.toArray⟩
  | .tup xs => .tuple (pyL xs)
  | .lst xs => .list (pyL xs)
  | .dct _ => .none
  | .ins _ _ => .none
  | .scr _ => .none
def pyL : List D → List PyData
  | [] => []
  | x :: xs => x.py :: pyL xs
end
mutual
def D.plain : D → Bool
  | .tup xs => plainL xs
  | .lst xs => plainL xs
  | .dct _ => false
  | .ins _ _ => false
  | .scr _ => false
  | _ => true
def plainL : List D → Bool
  | [] => true
  | x :: xs => x.plain && plainL xs
end
mutual
def D.dep : D → Nat
  | .tup xs => depL xs + 1
  | .lst xs => depL xs + 1
  | _ => 0
def depL : List D → Nat
  | [] => 0
  | x :: xs => max x.dep (depL xs)
end
mutual
def D.strs : D → Bool
  | .str s => s.all (· < 0x110000)
  | .tup xs => strsL xs
  | .lst xs => strsL xs
  | _ => true
def strsL : List D → Bool
  | [] => true
  | x :: xs => x.strs && strsL xs
end
def D.okEq (d : D) : Bool := d.plain && d.strs && decide (d.dep ≤ 64)
section
variable {K : PySem.W.Frag} {G : Nat → Addr} {w : Wd} {F H : Hp}
mutual
theorem Rep.dp : ∀ {v : V} {d : D}, Rep K G F v d → d.plain = true → Dp K F v d.py
  | _, _, .non, _ => .non
  | _, _, .bl b, _ => .bl b
  | _, _, .int i, _ => .int i
  | _, _, .str s, _ => .str _
  | _, _, .tup q r, h => .tup q (RepL.dp r h)
  | _, _, .lst q r, h => .lst (.inl (.inl q)) (RepL.dp r h)
  | _, _, .dct q r, h => by cases h
  | _, _, .ins q r, h => by cases h
  | _, _, .scr q, h => by cases h
theorem RepL.dp : ∀ {v : List V} {d : List D}, RepL K G F v d → plainL d = true → DpAll K F v (pyL d)
  | _, _, .nil, _ => .nil
  | _, _, .cons r t, h => by
    have h' := Bool.and_eq_true_iff.mp (show (_ && _) = true from h)
    exact .cons (Rep.dp r h'.1) (RepL.dp t h'.2)
end
theorem RepB.dp (ok : w.Ok) {v : V} {d : D} (r : RepB K G w v d) (h : d.plain = true) : Dp K w.H v d.py := by
  cases r with
  | fz r => exact (r.mono ok.sub).dp h
  | ml h' r => exact .lst (.inl (.inl h')) ((r.mono ok.sub).dp h)
  | md h' r => cases h
  | mi h' r => cases h
end
mutual
theorem py_dep : ∀ d : D, d.py.depth = d.dep
  | .non => rfl
  | .bl _ => rfl
  | .int _ => rfl
  | .str _ => rfl
  | .tup xs => congrArg (· + 1) (pyL_dep xs)
  | .lst xs => congrArg (· + 1) (pyL_dep xs)
  | .dct _ => rfl
  | .ins _ _ => rfl
  | .scr _ => rfl
theorem pyL_dep : ∀ ds : List D, PyData.depthAll (pyL ds) = depL ds
  | [] => rfl
  | x :: xs => by
    show max x.py.depth (PyData.depthAll (pyL xs)) = _
    rw [py_dep x, pyL_dep xs]; rfl
end
mutual
theorem py_lay : ∀ d : D, d.strs = true → d.py.canLay0 = true
  | .non, _ => rfl
  | .bl _, _ => rfl
  | .int _, _ => rfl
  | .str s, h => by
    show PyData.strOk ⟨s.toArray⟩ = true
    unfold PyData.strOk
    have h' : s.all (fun x => decide (x < 0x110000)) = true := h
    simpa using h'
  | .tup xs, h => pyL_lay xs h
  | .lst xs, h => pyL_lay xs h
  | .dct _, _ => rfl
  | .ins _ _, _ => rfl
  | .scr _, _ => rfl
theorem pyL_lay : ∀ ds : List D, strsL ds = true → PyData.canLayAll0 (pyL ds) = true
  | [], _ => rfl
  | x :: xs, h => by
    have h' := Bool.and_eq_true_iff.mp (show (_ && _) = true from h)
    show (x.py.canLay0 && PyData.canLayAll0 (pyL xs)) = true
    rw [py_lay x h'.1, pyL_lay xs h'.2]; rfl
end
theorem okEq_plain {d : D} (h : d.okEq = true) : d.plain = true := (Bool.and_eq_true_iff.mp (Bool.and_eq_true_iff.mp h).1).1
theorem okEq_shaped {d : D} (h : d.okEq = true) : SeqAt.shaped d.py = true := by
  have h1 := Bool.and_eq_true_iff.mp h
  have h2 := Bool.and_eq_true_iff.mp h1.1
  unfold SeqAt.shaped
  rw [py_lay d h2.2, py_dep d, h1.2]; rfl
def dAdd : D → D → Option D
  | .int i, .int j => some (.int (i + j))
  | .str a, .str b => if a.length + b.length ≤ 16777216 then some (.str (a ++ b)) else none
  | .tup xs, .tup ys => if xs.length + ys.length ≤ 16777216 then some (.tup (xs ++ ys)) else none
  | .lst xs, .lst ys => if xs.length + ys.length ≤ 16777216 then some (.lst (xs ++ ys)) else none
  | _, _ => none
def dSub : D → D → Option D
  | .int i, .int j => some (.int (i - j))
  | _, _ => none
def dMul : D → D → Option D
  | .int i, .int j => if (-(2 ^ 64) < i ∧ i < 2 ^ 64) ∨ (-(2 ^ 64) < j ∧ j < 2 ^ 64) then some (.int (i * j)) else none
  | _, _ => none
def dDiv : D → D → Option D
  | .int i, .int j => if 0 < j ∧ j < 1073741824 then some (.int (i / j)) else none
  | _, _ => none
def dMod : D → D → Option D
  | .int i, .int j => if 0 < j then some (.int (i % j)) else none
  | _, _ => none
def dPow : D → D → Option D
  | .int i, .int j => if 0 ≤ j ∧ j ≤ 1000000 ∧ i.natAbs < 2 ^ 64 then some (.int (i ^ j.toNat)) else none
  | _, _ => none
def dNeg : D → Option D
  | .int i => some (.int (-i))
  | _ => none
def eqV (a b : D) : Option Bool := match a, b with
  | .int i, .int j => some (decide (i = j))
  | .str s, .str t => some (decide (s = t))
  | .bl s, .bl t => some (decide (s = t))
  | a, b => if a.okEq && b.okEq then some (PyData.eqv a.py b.py) else none
def dEq (a b : D) : Option D := (eqV a b).map .bl
def dNe (a b : D) : Option D := (eqV a b).map fun c => .bl (!c)
def dLt : D → D → Option D
  | .int i, .int j => some (.bl (decide (i < j)))
  | .str s, .str t => some (.bl (decide (s < t)))
  | _, _ => none
def dLe : D → D → Option D
  | .int i, .int j => some (.bl (decide (i ≤ j)))
  | _, _ => none
def dGt : D → D → Option D
  | .int i, .int j => some (.bl (decide (j < i)))
  | _, _ => none
def dGe : D → D → Option D
  | .int i, .int j => some (.bl (decide (j ≤ i)))
  | _, _ => none
def dIsN : D → D → Option D
  | a, .non => some (.bl (match a with | .non => true | _ => false))
  | _, _ => none
def dNotN : D → D → Option D
  | a, .non => some (.bl (match a with | .non => false | _ => true))
  | _, _ => none
section
variable {X : Cx} {G : Nat → Addr}
theorem giv_here {w : Wd} {z : D} {Q : VK} (ok : w.Ok) (g : Giv X.K G w z Q) {u : V} (r : Rep X.K G w.F u z) : Q u w.H := g u w (Grw.refl w) ok r
theorem giv_new {w : Wd} {z : D} {Q : VK} (ok : w.Ok) (g : Giv X.K G w z Q) {p : Addr} {o : HO} (hp : w.H p = none) {u : V} (r : Rep X.K G (upd w.F p o) u z) (pl : Pl o := by first | assumption | exact ⟨fun _ z => (by cases z), fun _ _ z => (by unfold LamX.CodeO at z; cases z)⟩) : Q u (upd w.H p o) :=
  g u (w.frz p o) (Wd.frz_grw ok hp) (Wd.frz_ok ok hp pl) r
theorem repB_int {w : Wd} {v : V} {i : Int} (h : RepB X.K G w v (.int i)) : v = .int i := by
  cases h with | fz h => cases h; rfl
theorem repB_str {w : Wd} {v : V} {s : List Nat} (h : RepB X.K G w v (.str s)) : v = .str ⟨s.toArray⟩ := by
  cases h with | fz h => cases h; rfl
theorem repB_bl {w : Wd} {v : V} {b : Bool} (h : RepB X.K G w v (.bl b)) : v = .bl b := by
  cases h with | fz h => cases h; rfl
theorem repB_tup {w : Wd} {v : V} {ds : List D} (h : RepB X.K G w v (.tup ds)) : ∃ a vs, v = .ref a ∧ SqT X.K w.F a vs ∧ RepL X.K G w.F vs ds := by
  cases h with | fz h => cases h with | tup q r => exact ⟨_, _, rfl, q, r⟩
theorem repB_lst {w : Wd} (ok : w.Ok) {v : V} {ds : List D} (h : RepB X.K G w v (.lst ds)) : ∃ a vs, v = .ref a ∧ w.H a = some (.lst vs) ∧ RepL X.K G w.F vs ds := by
  cases h with
  | fz h => cases h with | lst q r => exact ⟨_, _, rfl, ok.sub _ _ q, r⟩
  | ml h r => exact ⟨_, _, rfl, h, r⟩
theorem repB_scr {w : Wd} (ok : w.Ok) {v : V} {ns : List Int} (h : RepB X.K G w v (.scr ns)) : ∃ a, v = .ref a ∧ SqL X.K w.H a (ns.map V.int) := by
  cases h with
  | fz h => cases h with | scr q => exact ⟨_, rfl, Same.seq ok.sub q⟩
theorem repB_dct {w : Wd} (ok : w.Ok) {v : V} {ds : List (DK × D)} (h : RepB X.K G w v (.dct ds)) : ∃ a vs, v = .ref a ∧ Rd w.H a (.dK vs) ∧ RepK X.K G w.F vs ds := by
  cases h with
  | fz h => cases h with | dct q r => exact ⟨_, _, rfl, .inr ⟨_, ok.sub _ _ q⟩, r⟩
  | md h r => exact ⟨_, _, rfl, .inl h, r⟩
theorem str_app (a b : List Nat) : (⟨a.toArray⟩ : Str) ++ (⟨b.toArray⟩ : Str) = ⟨(a ++ b).toArray⟩ := by
  show Str.mk (a.toArray ++ b.toArray) = _
  simp
theorem str_len (a : List Nat) : (⟨a.toArray⟩ : Str).length = a.length := by simp [Str.length]
theorem str_inj {a b : List Nat} : ((⟨a.toArray⟩ : Str) = ⟨b.toArray⟩) ↔ a = b := by
  constructor
  · intro h
    have := congrArg (fun s : Str => s.cps.toList) h
    simpa using this
  · intro h; rw [h]
theorem opS_add : OpS X G (binaryOp .Add) dAdd := by
  intro pins s σ H x y v u Q I rx ry ⟨w, a, b, z, eH, ok, ra, rb, eg, gv⟩
  subst eH
  cases a with
  | int i =>
    cases b with
    | int j =>
      cases eg
      rw [repB_int ra] at rx; rw [repB_int rb] at ry
      exact op_add pins s σ _ _ _ v u Q I rx ry ⟨i, j, rfl, rfl, giv_here ok gv (.int _)⟩
    | _ => cases eg
  | str i =>
    cases b with
    | str j =>
      have eg' : (if i.length + j.length ≤ 16777216 then some (D.str (i ++ j)) else none) = some z := eg
      by_cases hl : i.length + j.length ≤ 16777216
      · rw [if_pos hl] at eg'; cases eg'
        rw [repB_str ra] at rx; rw [repB_str rb] at ry
        exact op_add_str pins s σ _ _ _ v u Q I rx ry ⟨_, _, rfl, rfl, by rw [str_len, str_len, sizeLine_eq]; exact hl, by rw [str_app]; exact giv_here ok gv (.str _)⟩
      · rw [if_neg hl] at eg'; cases eg'
    | _ => cases eg
  | tup xs =>
    cases b with
    | tup ys =>
      obtain ⟨p, vs, rfl, q1, r1⟩ := repB_tup ra
      obtain ⟨p', ws, rfl, q2, r2⟩ := repB_tup rb
      have l1 := r1.length
      have l2 := r2.length
      have eg' : (if xs.length + ys.length ≤ 16777216 then some (D.tup (xs ++ ys)) else none) = some z := eg
      by_cases hl : xs.length + ys.length ≤ 16777216
      · rw [if_pos hl] at eg'; cases eg'
        refine op_catA pins s σ _ _ _ v u Q I rx ry ⟨p, p', vs, ws, rfl, rfl, SqT.same ok.sub q1, SqT.same ok.sub q2, by rw [l1, l2, sizeLine_eq]; exact hl, fun e => ?_, fun _ e => ?_, fun _ _ b hb => ?_⟩
        · subst e; cases r1; exact giv_here ok gv (.tup q2 r2)
        · subst e; cases r2; exact giv_here ok gv (by rw [List.append_nil]; exact .tup q1 r1)
        · exact giv_new ok gv hb (.tup (.inl (.inl upd_same)) ((r1.append r2).mono (same_upd (ok.f_none hb))))
      · rw [if_neg hl] at eg'; cases eg'
    | _ => cases eg
  | lst xs =>
    cases b with
    | lst ys =>
      obtain ⟨p, vs, rfl, q1, r1⟩ := repB_lst ok ra
      obtain ⟨p', ws, rfl, q2, r2⟩ := repB_lst ok rb
      have l1 := r1.length
      have l2 := r2.length
      have eg' : (if xs.length + ys.length ≤ 16777216 then some (D.lst (xs ++ ys)) else none) = some z := eg
      by_cases hl : xs.length + ys.length ≤ 16777216
      · rw [if_pos hl] at eg'; cases eg'
        refine op_cat pins s σ _ _ _ v u Q I rx ry ⟨p, p', vs, ws, rfl, rfl, q1, q2, by rw [l1, l2, sizeLine_eq]; exact hl, fun b hb => ?_⟩
        exact giv_new ok gv hb (.lst upd_same ((r1.append r2).mono (same_upd (ok.f_none hb))))
      · rw [if_neg hl] at eg'; cases eg'
    | _ => cases eg
  | _ => cases b <;> cases eg
theorem opS_int {f : Value → Value → Sem Value} {g : D → D → Option D} {C : Int → Int → Prop} {k : Int → Int → V} (ho : OpR X f (rI C k))
    (hg : ∀ a b z, g a b = some z → ∃ i j, a = .int i ∧ b = .int j ∧ C i j ∧ ∀ (F : Hp), Rep X.K G F (k i j) z) : OpS X G f g := by
  intro pins s σ H x y v u Q I rx ry ⟨w, a, b, z, eH, ok, ra, rb, eg, gv⟩
  subst eH
  obtain ⟨i, j, rfl, rfl, c, r⟩ := hg a b z eg
  rw [repB_int ra] at rx; rw [repB_int rb] at ry
  exact ho pins s σ _ _ _ v u Q I rx ry ⟨i, j, rfl, rfl, c, giv_here ok gv (r _)⟩
theorem opS_int0 {f : Value → Value → Sem Value} {g : D → D → Option D} {k : Int → Int → V} (ho : OpR X f (rI0 k))
    (hg : ∀ a b z, g a b = some z → ∃ i j, a = .int i ∧ b = .int j ∧ ∀ (F : Hp), Rep X.K G F (k i j) z) : OpS X G f g := by
  intro pins s σ H x y v u Q I rx ry ⟨w, a, b, z, eH, ok, ra, rb, eg, gv⟩
  subst eH
  obtain ⟨i, j, rfl, rfl, r⟩ := hg a b z eg
  rw [repB_int ra] at rx; rw [repB_int rb] at ry
  exact ho pins s σ _ _ _ v u Q I rx ry ⟨i, j, rfl, rfl, giv_here ok gv (r _)⟩
theorem opS_sub : OpS X G (binaryOp .Sub) dSub := opS_int0 op_sub fun a b z e => by
  cases a <;> cases b <;> first | (cases e; exact ⟨_, _, rfl, rfl, fun _ => .int _⟩) | cases e
theorem opS_mul : OpS X G (binaryOp .Mult) dMul := opS_int op_mul fun a b z e => by
  cases a with
  | int i =>
    cases b with
    | int j =>
      unfold dMul at e
      dsimp only at e
      split at e
      · rename_i h; cases e; exact ⟨_, _, rfl, rfl, h, fun _ => .int _⟩
      · cases e
    | _ => cases e
  | _ => cases b <;> cases e
theorem opS_div : OpS X G (binaryOp .FloorDiv) dDiv := opS_int op_fdiv fun a b z e => by
  cases a with
  | int i =>
    cases b with
    | int j =>
      unfold dDiv at e
      dsimp only at e
      split at e
      · rename_i h; cases e; exact ⟨_, _, rfl, rfl, h, fun _ => .int _⟩
      · cases e
    | _ => cases e
  | _ => cases b <;> cases e
theorem opS_mod : OpS X G (binaryOp .Mod) dMod := opS_int op_mod fun a b z e => by
  cases a with
  | int i =>
    cases b with
    | int j =>
      unfold dMod at e
      dsimp only at e
      split at e
      · rename_i h; cases e; exact ⟨_, _, rfl, rfl, h, fun _ => .int _⟩
      · cases e
    | _ => cases e
  | _ => cases b <;> cases e
theorem opS_pow : OpS X G (binaryOp .Pow) dPow := opS_int op_pow fun a b z e => by
  cases a with
  | int i =>
    cases b with
    | int j =>
      unfold dPow at e
      dsimp only at e
      split at e
      · rename_i h; cases e; exact ⟨_, _, rfl, rfl, h, fun _ => .int _⟩
      · cases e
    | _ => cases e
  | _ => cases b <;> cases e
theorem unS_neg : UnS X G (unaryOp .USub) dNeg := by
  intro pins s σ H x v Q I rx ⟨w, a, z, eH, ok, ra, eg, gv⟩
  subst eH
  cases a with
  | int i =>
    cases eg
    rw [repB_int ra] at rx
    exact un_neg pins s σ _ _ v Q I rx ⟨i, rfl, giv_here ok gv (.int _)⟩
  | _ => cases eg
theorem opS_le : OpS X G (compareOp .LtE) dLe := opS_int0 op_le fun a b z e => by
  cases a <;> cases b <;> first | (cases e; exact ⟨_, _, rfl, rfl, fun _ => .bl _⟩) | cases e
theorem opS_gt : OpS X G (compareOp .Gt) dGt := opS_int0 op_gt fun a b z e => by
  cases a <;> cases b <;> first | (cases e; exact ⟨_, _, rfl, rfl, fun _ => .bl _⟩) | cases e
theorem opS_ge : OpS X G (compareOp .GtE) dGe := opS_int0 op_ge fun a b z e => by
  cases a <;> cases b <;> first | (cases e; exact ⟨_, _, rfl, rfl, fun _ => .bl _⟩) | cases e
theorem opS_lt : OpS X G (compareOp .Lt) dLt := by
  intro pins s σ H x y v u Q I rx ry ⟨w, a, b, z, eH, ok, ra, rb, eg, gv⟩
  subst eH
  cases a with
  | int i =>
    cases b with
    | int j =>
      cases eg
      rw [repB_int ra] at rx; rw [repB_int rb] at ry
      exact op_lt pins s σ _ _ _ v u Q I rx ry ⟨i, j, rfl, rfl, giv_here ok gv (.bl _)⟩
    | _ => cases eg
  | str i =>
    cases b with
    | str j =>
      cases eg
      rw [repB_str ra] at rx; rw [repB_str rb] at ry
      exact op_lt_str pins s σ _ _ _ v u Q I rx ry ⟨_, _, rfl, rfl, giv_here ok gv (.bl _)⟩
    | _ => cases eg
  | _ => cases b <;> cases eg
theorem eq_slow {a b : D} {c : Bool} (h : (if a.okEq && b.okEq then some (PyData.eqv a.py b.py) else none) = some c) : a.okEq = true ∧ b.okEq = true ∧ c = PyData.eqv a.py b.py := by
  cases e : (a.okEq && b.okEq) with
  | true =>
    rw [e] at h
    obtain ⟨e1, e2⟩ := Bool.and_eq_true_iff.mp e
    exact ⟨e1, e2, (Option.some.inj h).symm⟩
  | false => rw [e] at h; cases h
theorem eqV_cases {a b : D} {c : Bool} (h : eqV a b = some c) : (∃ i j, a = .int i ∧ b = .int j ∧ c = decide (i = j)) ∨ (∃ i j, a = .str i ∧ b = .str j ∧ c = decide (i = j)) ∨ (∃ i j, a = .bl i ∧ b = .bl j ∧ c = decide (i = j)) ∨
    (a.okEq = true ∧ b.okEq = true ∧ c = PyData.eqv a.py b.py) := by
  unfold eqV at h
  split at h
  · cases h; exact .inl ⟨_, _, rfl, rfl, rfl⟩
  · cases h; exact .inr (.inl ⟨_, _, rfl, rfl, rfl⟩)
  · cases h; exact .inr (.inr (.inl ⟨_, _, rfl, rfl, rfl⟩))
  · exact .inr (.inr (.inr (eq_slow h)))
theorem opS_eq (hu : X.A.units + 64 < cLine) : OpS X G (compareOp .Eq) dEq := by
  intro pins s σ H x y v u Q I rx ry ⟨w, a, b, z, eH, ok, ra, rb, eg, gv⟩
  subst eH
  unfold dEq at eg
  obtain ⟨c, ec, rfl⟩ := Option.map_eq_some_iff.mp eg
  rcases eqV_cases ec with ⟨i, j, rfl, rfl, rfl⟩ | ⟨i, j, rfl, rfl, rfl⟩ | ⟨i, j, rfl, rfl, rfl⟩ | ⟨h1, h2, rfl⟩
  · rw [repB_int ra] at rx; rw [repB_int rb] at ry
    refine op_eq pins s σ _ _ _ v u Q I rx ry ⟨rfl, ?_⟩
    rw [dec_int, show (i == j) = decide (i = j) from Bool.beq_eq_decide_eq i j]
    exact giv_here ok gv (.bl _)
  · rw [repB_str ra] at rx; rw [repB_str rb] at ry
    refine op_eq pins s σ _ _ _ v u Q I rx ry ⟨rfl, ?_⟩
    have e : decide (V.str ⟨i.toArray⟩ = V.str ⟨j.toArray⟩) = decide (i = j) := by
      by_cases q : i = j
      · subst q; simp
      · rw [decide_eq_false q, decide_eq_false (fun z => q (by injection z with z; exact str_inj.mp z))]
    rw [e]
    exact giv_here ok gv (.bl _)
  · rw [repB_bl ra] at rx; rw [repB_bl rb] at ry
    refine op_eq pins s σ _ _ _ v u Q I rx ry ⟨rfl, ?_⟩
    rw [dec_bl, show (i == j) = decide (i = j) from Bool.beq_eq_decide_eq i j]
    exact giv_here ok gv (.bl _)
  · exact op_eqD hu pins s σ _ _ _ v u Q I rx ry ⟨_, _, ra.dp ok (okEq_plain h1), rb.dp ok (okEq_plain h2), okEq_shaped h1, okEq_shaped h2, giv_here ok gv (.bl _)⟩
theorem opS_ne (hu : X.A.units + 64 < cLine) : OpS X G (compareOp .NotEq) dNe := by
  intro pins s σ H x y v u Q I rx ry ⟨w, a, b, z, eH, ok, ra, rb, eg, gv⟩
  subst eH
  unfold dNe at eg
  obtain ⟨c, ec, rfl⟩ := Option.map_eq_some_iff.mp eg
  rcases eqV_cases ec with ⟨i, j, rfl, rfl, rfl⟩ | ⟨i, j, rfl, rfl, rfl⟩ | ⟨i, j, rfl, rfl, rfl⟩ | ⟨h1, h2, rfl⟩
  · rw [repB_int ra] at rx; rw [repB_int rb] at ry
    refine op_ne pins s σ _ _ _ v u Q I rx ry ⟨rfl, ?_⟩
    rw [dec_int, show (i == j) = decide (i = j) from Bool.beq_eq_decide_eq i j]
    exact giv_here ok gv (.bl _)
  · rw [repB_str ra] at rx; rw [repB_str rb] at ry
    refine op_ne pins s σ _ _ _ v u Q I rx ry ⟨rfl, ?_⟩
    have e : decide (V.str ⟨i.toArray⟩ = V.str ⟨j.toArray⟩) = decide (i = j) := by
      by_cases q : i = j
      · subst q; simp
      · rw [decide_eq_false q, decide_eq_false (fun z => q (by injection z with z; exact str_inj.mp z))]
    rw [e]
    exact giv_here ok gv (.bl _)
  · rw [repB_bl ra] at rx; rw [repB_bl rb] at ry
    refine op_ne pins s σ _ _ _ v u Q I rx ry ⟨rfl, ?_⟩
    rw [dec_bl, show (i == j) = decide (i = j) from Bool.beq_eq_decide_eq i j]
    exact giv_here ok gv (.bl _)
  · exact op_neD hu pins s σ _ _ _ v u Q I rx ry ⟨_, _, ra.dp ok (okEq_plain h1), rb.dp ok (okEq_plain h2), okEq_shaped h1, okEq_shaped h2, giv_here ok gv (.bl _)⟩
end
end Rz
namespace Rz
open PySem PySem.Spec PyProof.Rows L2
inductive Fl where
  | nx | bk | ct | rt (v : Sl)
section
variable (K : PySem.W.Frag) (G : Nat → Addr)
def Kept (pr : List Nat) (σ σ' : L2.St) : Prop := ∀ j ∈ pr, σ'[j]? = σ[j]?
def PostS (w0 : Wd) (F : Hp) (pr : List Nat) (σ : L2.St) (W : WX) (o : Out Fl) (D : Ends) : Prop :=
  match o with
  | .ok .nx st' => ∀ w' σ', Rel K G w' st' σ' → Step w0 w' → Same F w'.F → Kept pr σ σ' → D.nx σ' w'.H
  | .ok .bk st' => ∀ w' σ', Rel K G w' st' σ' → Step w0 w' → Same F w'.F → Kept pr σ σ' → D.bk σ' w'.H
  | .ok .ct st' => ∀ w' σ', Rel K G w' st' σ' → Step w0 w' → Same F w'.F → Kept pr σ σ' → D.ct σ' w'.H
  | .ok (.rt v) st' => ∀ u w' σ', Rel K G w' st' σ' → Step w0 w' → Same F w'.F → Kept pr σ σ' → FrR K G w0 w' u v → D.rt u w'.H
  | .exc x st' => ∀ c d w' σ', Rel K G w' st' σ' → Step w0 w' → Same F w'.F → Kept pr σ σ' → ExR K G w' c d x → W c d σ' w'.H
  | .bad => False
end
theorem Kept.refl (pr : List Nat) (σ : L2.St) : Kept pr σ σ := fun _ _ => rfl
theorem Kept.trans {pr : List Nat} {a b c : L2.St} (h : Kept pr a b) (h' : Kept pr b c) : Kept pr a c := fun j hj => (h' j hj).trans (h j hj)
theorem Kept.set {pr : List Nat} {σ : L2.St} {i : Nat} {x : Option V} (h : i ∉ pr) : Kept pr σ (σ.set i x) := fun j hj => by
  rw [List.getElem?_set_ne]
  rintro rfl
  exact h hj
section
variable {K : PySem.W.Frag} {G : Nat → Addr} {W : WX} {pr : List Nat} {w w0 w1 : Wd} {st : Env} {σ σ1 : L2.St} {Dn : Ends}
theorem PostS.shift {F F1 : Hp} {o : Out Fl} (h : PostS K G w0 F pr σ W o Dn) (f : Same F F1) (k : Kept pr σ σ1) : PostS K G w0 F1 pr σ1 W o Dn := by
  cases o with
  | ok fl st' => cases fl with
    | nx => exact fun w' σ' r s f' k' => h w' σ' r s (f.trans f') (k.trans k')
    | bk => exact fun w' σ' r s f' k' => h w' σ' r s (f.trans f') (k.trans k')
    | ct => exact fun w' σ' r s f' k' => h w' σ' r s (f.trans f') (k.trans k')
    | rt v => exact fun u w' σ' r s f' k' => h u w' σ' r s (f.trans f') (k.trans k')
  | exc x st' => exact fun c d w' σ' r s f' k' => h c d w' σ' r s (f.trans f') (k.trans k')
  | bad => exact h
theorem Snd.stmt {α β : Type} {R : Wd → Wd → β → α → Prop} {run1 : L2.St → Hp → (β → Hp → Prop) → Prop} {m : M α} {f : α → M Fl} {Q1 : β → Hp → Prop}
    (h1 : Snd K G run1 R W m) (r : Rel K G w st σ) (s : Step w0 w) (p : PostS K G w0 w.F pr σ W (bindM m f st) Dn)
    (h2 : ∀ a u w1 st1, Rel K G w1 st1 σ → Step w0 w1 → Step w w1 → R w w1 u a → PostS K G w0 w1.F pr σ W (f a st1) Dn → Q1 u w1.H) : run1 σ w.H Q1 := by
  refine h1 w st σ Q1 r ?_
  unfold bindM at p
  cases e : m st with
  | ok a st1 =>
    rw [e] at p
    exact fun u w1 r1 s1 q1 => h2 a u w1 st1 r1 (s.trans r.ok r1.ok s1) s1 q1 (PostS.shift p s1.f (Kept.refl _ _))
  | exc x st1 =>
    rw [e] at p
    exact fun c d w1 r1 s1 q1 => p c d w1 σ r1 (s.trans r.ok r1.ok s1) s1.f (Kept.refl _ _) q1
  | bad => rw [e] at p; exact p
theorem set_get {α : Type} {l : List α} {i : Nat} {x y : α} (h : (l.set i x)[i]? = some y) : i < l.length := by
  have := (List.getElem?_eq_some_iff.mp h).1
  simpa using this
theorem Rel.store (r : Rel K G w st σ) {i : Nat} {u : V} {d : D} (q : Rep K G w.F u d) : Rel K G w (st.set i (.fz d)) (σ.set i (some u)) := by
  refine ⟨r.ok, by rw [List.length_set, List.length_set]; exact r.len, fun j s e => ?_, r.tk⟩
  by_cases hj : j = i
  · subst hj
    have hl := set_get e
    rw [List.getElem?_set_self hl] at e
    cases e
    exact ⟨some u, by rw [List.getElem?_set_self (by rw [r.len]; exact hl)], u, rfl, q⟩
  · rw [List.getElem?_set_ne (Ne.symm hj)] at e
    obtain ⟨x, h, q'⟩ := r.at_ j s e
    exact ⟨x, by rw [List.getElem?_set_ne (Ne.symm hj)]; exact h, q'⟩
theorem SlotR.own {a : Addr} {i j : Nat} (hk : w.k a = .oth) : ∀ {x : Option V} {s : Sl}, SlotR K G w j x s → SlotR K G (w.own a i) j x s
  | _, .un, _ => trivial
  | _, .fz d, h => h
  | _, .ml xs, ⟨b, vs, e, k, h, r⟩ => ⟨b, vs, e, by
      have q : b ≠ a := by rintro rfl; rw [hk] at k; cases k
      unfold Wd.own; dsimp only; rw [if_neg q]; exact k, h, r⟩
  | _, .md xs, ⟨b, vs, e, k, h, r⟩ => ⟨b, vs, e, by
      have q : b ≠ a := by rintro rfl; rw [hk] at k; cases k
      unfold Wd.own; dsimp only; rw [if_neg q]; exact k, h, r⟩
  | _, .mi c xs, ⟨b, dx, vs, e, k, h, r⟩ => ⟨b, dx, vs, e, by
      have q : b ≠ a := by rintro rfl; rw [hk] at k; cases k
      unfold Wd.own; dsimp only; rw [if_neg q]; exact k, h, r⟩
theorem own_self {a : Addr} {i : Nat} : (w.own a i).k a = .own i := by unfold Wd.own; dsimp only; rw [if_pos rfl]
theorem Wd.own_step {a : Addr} {i : Nat} (s : Step w0 w) (h0 : w0.H a = none) (ok0 : w0.Ok) : Step w0 (w.own a i) where
  f := s.f
  o := fun b o e k => by
    obtain ⟨e1, k1⟩ := s.o b o e k
    have n : b ≠ a := by rintro rfl; rw [h0] at e; cases e
    exact ⟨e1, by unfold Wd.own; dsimp only; rw [if_neg n]; exact k1⟩
  d := s.d
  w := fun b j e => by
    have n : b ≠ a := by
      rintro rfl
      obtain ⟨o, q⟩ := ok0.ko _ _ e
      rw [h0] at q; cases q
    unfold Wd.own; dsimp only; rw [if_neg n]; exact s.w b j e
  t := fun b j => by
    unfold Wd.own; dsimp only
    by_cases n : b = a
    · subst n
      rw [if_pos rfl]
      refine ⟨fun e => ?_, fun z => by cases z⟩
      obtain ⟨o, q⟩ := (ok0.kt _ _ e).some
      rw [h0] at q; cases q
    · rw [if_neg n]; exact s.t b j
theorem Rel.store_own (r : Rel K G w st σ) {i : Nat} {a : Addr} {v : Sl} {o : HO} (h : w.H a = some o) (hk : w.k a = .oth) (q : SlotR K G (w.own a i) i (some (.ref a)) v) (hp : Pl o := by first | assumption | exact ⟨fun _ z => (by cases z), fun _ _ z => (by unfold LamX.CodeO at z; cases z)⟩) : Rel K G (w.own a i) (st.set i v) (σ.set i (some (.ref a))) := by
  refine ⟨Wd.own_ok r.ok h (by rw [hk]; intro z; cases z), by rw [List.length_set, List.length_set]; exact r.len, fun j s e => ?_, r.tk.upd (a := a) (by rw [hk]; intro q z; cases z) rfl⟩
  by_cases hj : j = i
  · subst hj
    have hl := set_get e
    rw [List.getElem?_set_self hl] at e
    cases e
    exact ⟨_, by rw [List.getElem?_set_self (by rw [r.len]; exact hl)], q⟩
  · rw [List.getElem?_set_ne (Ne.symm hj)] at e
    obtain ⟨x, h, q'⟩ := r.at_ j s e
    exact ⟨x, by rw [List.getElem?_set_ne (Ne.symm hj)]; exact h, q'.own hk⟩
theorem Rel.put (r : Rel K G w1 st σ) (ok0 : w0.Ok) (okw : w.Ok) (s0 : Step w0 w) (s : Step w0 w1) {i : Nat} {u : V} {v : Sl} (q : FrR K G w w1 u v) :
    ∃ w2, w2.H = w1.H ∧ w2.F = w1.F ∧ Rel K G w2 (st.set i v) (σ.set i (some u)) ∧ Step w0 w2 := by
  cases v with
  | un => exact q.elim
  | fz d => exact ⟨w1, rfl, rfl, r.store q, s⟩
  | ml xs =>
    obtain ⟨a, vs, rfl, n, k, h, q⟩ := q
    exact ⟨w1.own a i, rfl, rfl, r.store_own h k ⟨a, vs, rfl, own_self, h, q⟩, Wd.own_step s (s0.d a n) ok0⟩
  | md xs =>
    obtain ⟨a, vs, rfl, n, k, h, q⟩ := q
    exact ⟨w1.own a i, rfl, rfl, r.store_own h k ⟨a, vs, rfl, own_self, h, q⟩, Wd.own_step s (s0.d a n) ok0⟩
  | mi c xs =>
    obtain ⟨a, dx, vs, rfl, n, k, h, q⟩ := q
    exact ⟨w1.own a i, rfl, rfl, r.store_own h k ⟨a, dx, vs, rfl, own_self, h, q⟩, Wd.own_step s (s0.d a n) ok0⟩
end
section
variable (G : Nat → Addr) (X : Cx) (W : WX) (pr : List Nat)
def SndC (s : Stmt) (m : M Fl) : Prop := ∀ w0 w st σ D, w0.Ok → Rel X.K G w st σ → Step w0 w → (∀ a i, w0.k a = .own i → i ∈ pr) → PostS X.K G w0 w.F pr σ W (m st) D → RunS X s D σ w.H
def SndB (s : List Stmt) (m : M Fl) : Prop := ∀ w0 w st σ D, w0.Ok → Rel X.K G w st σ → Step w0 w → (∀ a i, w0.k a = .own i → i ∈ pr) → PostS X.K G w0 w.F pr σ W (m st) D → RunB X s D σ w.H
end
def nxM : M Fl := pureM .nx
def seqM (a b : M Fl) : M Fl := fun st => match a st with
  | .ok .nx st' => b st'
  | o => o
def setM (i : Nat) (m : M D) : M Fl := bindM m fun d => fun st => .ok .nx (st.set i (.fz d))
def putM (i : Nat) (m : M Sl) : M Fl := bindM m fun v => fun st => .ok .nx (st.set i v)
def retM (m : M Sl) : M Fl := bindM m fun v => pureM (.rt v)
def retD (m : M D) : M Fl := bindM m fun v => pureM (.rt (.fz v))
def retN : M Fl := pureM (.rt (.fz .non))
def retO (i : Nat) : M Fl := fun st => match st[i]? with
  | some .un => .bad
  | some s => .ok (.rt s) (st.set i .un)
  | none => .bad
def drpM {α : Type} (m : M α) : M Fl := bindM m fun _ => pureM .nx
section
variable {G : Nat → Addr} {X : Cx} {W : WX} {pr : List Nat} {e c : Expr} {s : Stmt} {ss : List Stmt} {pos pos' : Pos}
theorem sb_nil : SndB G X W pr [] nxM := fun w0 w st σ D ok0 r s own p => RunB.of pss_nil (p w σ r s (Same.refl _) (Kept.refl _ _))
theorem sb_cons {m m' : M Fl} (h : SndC G X W pr s m) (h' : SndB G X W pr ss m') : SndB G X W pr (s :: ss) (seqM m m') := by
  intro w0 w st σ D ok0 r s own p
  refine RunB.of (pss_cons ps_run pss_run) ?_
  refine h w0 w st σ { D with nx := RunB X ss D } ok0 r s own ?_
  unfold seqM at p
  cases q : m st with
  | ok f st' =>
    rw [q] at p
    cases f with
    | nx => exact fun w' σ' r' s' f k => h' w0 w' st' σ' D ok0 r' s' own (PostS.shift p f k)
    | bk => exact p
    | ct => exact p
    | rt v => exact p
  | exc x st' => rw [q] at p; exact p
  | bad => rw [q] at p; exact p
theorem sb_one {m : M Fl} (h : SndC G X W pr s m) : SndB G X W pr [s] m := fun w0 w st σ D ok0 r s own p => RunB.of (pss_one ps_run) (h w0 w st σ D ok0 r s own p)
theorem sc_pass : SndC G X W pr (.Pass pos) nxM := fun w0 w st σ D ok0 r s own p => RunS.of ps_pass (p w σ r s (Same.refl _) (Kept.refl _ _))
theorem sc_break : SndC G X W pr (.Break pos) (pureM .bk) := fun w0 w st σ D ok0 r s own p => RunS.of ps_break (p w σ r s (Same.refl _) (Kept.refl _ _))
theorem sc_cont : SndC G X W pr (.Continue pos) (pureM .ct) := fun w0 w st σ D ok0 r s own p => RunS.of ps_continue (p w σ r s (Same.refl _) (Kept.refl _ _))
theorem sc_if {m : M Bool} {a b : List Stmt} {ma mb : M Fl} (hc : SndT G X W c m) (ha : SndB G X W pr a ma) (hb : SndB G X W pr b mb) : SndC G X W pr (.If c a b pos) (iteM m ma mb) := by
  intro w0 w st σ D ok0 r s own p
  refine RunS.of (ps_if pt_run pss_run pss_run) ?_
  refine Snd.stmt (run1 := RunT X c) hc r s p fun d u w1 st1 r1 s1 _ q1 p1 => ?_
  subst q1
  cases u with
  | true => exact iteT (ha w0 w1 st1 σ D ok0 r1 s1 own p1)
  | false => exact iteF (hb w0 w1 st1 σ D ok0 r1 s1 own p1)
theorem sc_set {i : Nat} {x : Str} {m : M D} (hN : X.N.Nodup) (hi : X.N[i]? = some x) (hx : Loc X.env.scope x) (hp : i ∉ pr) (h : SndD G X W e m) (hs : swapsWith e (some (.Name x pos')) pos.line X.env = pure false := by rfl)
    (hf : X.fn x = true ∨ X.env.scope.names.lookup x = some .local := by first | exact .inl rfl | exact .inr rfl | assumption) : SndC G X W pr (.Assign [.Name x pos'] e pos) (setM i m) := by
  intro w0 w st σ D ok0 r s own p
  refine RunS.of (ps_set hN hi hx pe_run hs hf) ?_
  refine Snd.stmt (run1 := RunE X e) h r s p fun d u w1 st1 r1 s1 _ q1 p1 => ?_
  exact p1 w1 _ (r1.store q1) s1 (Same.refl _) (Kept.set hp)
theorem sc_put {i : Nat} {x : Str} {m : M Sl} (hN : X.N.Nodup) (hi : X.N[i]? = some x) (hx : Loc X.env.scope x) (hp : i ∉ pr) (h : SndV G X W e m) (hs : swapsWith e (some (.Name x pos')) pos.line X.env = pure false := by rfl)
    (hf : X.fn x = true ∨ X.env.scope.names.lookup x = some .local := by first | exact .inl rfl | exact .inr rfl | assumption) : SndC G X W pr (.Assign [.Name x pos'] e pos) (putM i m) := by
  intro w0 w st σ D ok0 r s own p
  refine RunS.of (ps_set hN hi hx pe_run hs hf) ?_
  refine Snd.stmt (run1 := RunE X e) h r s p fun d u w1 st1 r1 s1 _ q1 p1 => ?_
  obtain ⟨w2, e2, f2, r2, s2⟩ := r1.put ok0 r.ok s s1 (i := i) q1
  show D.nx (σ.set i (some u)) w1.H
  rw [← e2]
  exact p1 w2 _ r2 s2 (by rw [f2]; exact Same.refl _) (Kept.set hp)
theorem sc_ret {m : M Sl} (h : SndV G X W e m) : SndC G X W pr (.Return (some e) pos) (retM m) := by
  intro w0 w st σ D ok0 r s own p
  refine RunS.of (ps_ret pe_run) ?_
  refine Snd.stmt (run1 := RunE X e) h r s p fun d u w1 st1 r1 s1 _ q1 p1 => ?_
  exact p1 u w1 σ r1 s1 (Same.refl _) (Kept.refl _ _) (older_V _ _ _ _ _ s q1)
theorem sc_retD {m : M D} (h : SndD G X W e m) : SndC G X W pr (.Return (some e) pos) (retD m) := by
  intro w0 w st σ D ok0 r s own p
  refine RunS.of (ps_ret pe_run) ?_
  refine Snd.stmt (run1 := RunE X e) h r s p fun d u w1 st1 r1 s1 _ q1 p1 => ?_
  exact p1 u w1 σ r1 s1 (Same.refl _) (Kept.refl _ _) q1
theorem sc_retN : SndC G X W pr (.Return none pos) retN := fun w0 w st σ D ok0 r s own p => RunS.of ps_retN (p .non w σ r s (Same.refl _) (Kept.refl _ _) .non)
theorem sc_expr {α β : Type} {R : Wd → Wd → V → α → Prop} {m : M α} (h : Snd X.K G (RunE X e) R W m) (hs : swapsWith e none pos.line X.env = pure false := by rfl) : SndC G X W pr (.Expr e pos) (drpM m) := by
  intro w0 w st σ D ok0 r s own p
  refine RunS.of (ps_expr pe_run hs) ?_
  exact Snd.stmt (run1 := RunE X e) h r s p fun d u w1 st1 r1 s1 _ q1 p1 => p1 w1 σ r1 s1 (Same.refl _) (Kept.refl _ _)
theorem own_fresh {w0 w : Wd} (ok0 : w0.Ok) (ok : w.Ok) (s : Step w0 w) (own : ∀ a i, w0.k a = .own i → i ∈ pr) {a : Addr} {i : Nat} (hk : w.k a = .own i) (hp : i ∉ pr) : w0.H a = none := by
  cases e : w0.H a with
  | none => rfl
  | some o =>
    cases k : w0.k a with
    | oth =>
      obtain ⟨_, k1⟩ := s.o a o e k
      rw [hk] at k1; cases k1
    | frz =>
      obtain ⟨x, q⟩ := (ok0.kf a).mp k
      have := (ok.kf a).mpr ⟨x, s.f a x q⟩
      rw [hk] at this; cases this
    | own j =>
      rcases s.w a j k with z | z
      · rw [hk] at z; cases z; exact absurd (own a i k) hp
      · rw [hk] at z; cases z
    | tab n =>
      have z := (s.t a n).mp k
      rw [hk] at z; cases z
def Wd.let (w : Wd) (a : Addr) : Wd := ⟨w.F, fun b => if b = a then .oth else w.k b, w.H⟩
theorem Rel.let_ {K : PySem.W.Frag} {w : Wd} {st : Env} {σ : L2.St} (r : Rel K G w st σ) {i : Nat} {a : Addr} (hk : w.k a = .own i) : Rel K G (w.let a) (st.set i .un) σ := by
  refine ⟨⟨r.ok.sub, fun b => ?_, fun b j e => ?_, fun b j e => ?_, fun b ps e => ?_, fun b c n e => ?_⟩, by rw [List.length_set]; exact r.len, fun j s e => ?_, r.tk.upd (a := a) (by rw [hk]; intro q z; cases z) rfl⟩
  · unfold Wd.let; dsimp only
    by_cases q : b = a
    · subst q
      rw [if_pos rfl]
      constructor
      · intro z; cases z
      · intro z; have := (r.ok.kf b).mpr z; rw [hk] at this; cases this
    · rw [if_neg q]; exact r.ok.kf b
  · unfold Wd.let at e; dsimp only at e
    by_cases q : b = a
    · rw [if_pos q] at e; cases e
    · rw [if_neg q] at e; exact r.ok.ko b j e
  · unfold Wd.let at e; dsimp only at e
    by_cases q : b = a
    · rw [if_pos q] at e; cases e
    · rw [if_neg q] at e; exact r.ok.kt b j e
  · obtain ⟨q0, e0⟩ := r.ok.kd b ps e
    refine ⟨q0, ?_⟩
    unfold Wd.let; dsimp only
    by_cases q : b = a
    · subst q; rw [hk] at e0; cases e0
    · rw [if_neg q]; exact e0
  · have e0 := r.ok.kc b c n e
    unfold Wd.let; dsimp only
    by_cases q : b = a
    · subst q; rw [hk] at e0; cases e0
    · rw [if_neg q]; exact e0
  · rcases set_at e with ⟨rfl, rfl⟩ | ⟨n, e⟩
    · have hl := set_get e
      have : j < σ.length := by rw [r.len]; exact hl
      exact ⟨_, List.getElem?_eq_getElem this, trivial⟩
    · obtain ⟨x, h, q⟩ := r.at_ j s e
      refine ⟨x, h, ?_⟩
      cases s with
      | un => trivial
      | fz d => exact q
      | ml xs =>
        obtain ⟨b, vs, e1, k, hh, rr⟩ := q
        have nb : b ≠ a := by rintro rfl; rw [hk] at k; cases k; exact n rfl
        exact ⟨b, vs, e1, by unfold Wd.let; dsimp only; rw [if_neg nb]; exact k, hh, rr⟩
      | md xs =>
        obtain ⟨b, vs, e1, k, hh, rr⟩ := q
        have nb : b ≠ a := by rintro rfl; rw [hk] at k; cases k; exact n rfl
        exact ⟨b, vs, e1, by unfold Wd.let; dsimp only; rw [if_neg nb]; exact k, hh, rr⟩
      | mi c xs =>
        obtain ⟨b, dx, vs, e1, k, hh, rr⟩ := q
        have nb : b ≠ a := by rintro rfl; rw [hk] at k; cases k; exact n rfl
        exact ⟨b, dx, vs, e1, by unfold Wd.let; dsimp only; rw [if_neg nb]; exact k, hh, rr⟩
theorem Wd.let_step {w0 w : Wd} {a : Addr} (s : Step w0 w) (h0 : w0.H a = none) (ok0 : w0.Ok) : Step w0 (w.let a) where
  f := s.f
  o := fun b o e k => by
    obtain ⟨e1, k1⟩ := s.o b o e k
    refine ⟨e1, ?_⟩
    unfold Wd.let; dsimp only
    by_cases q : b = a
    · rw [if_pos q]
    · rw [if_neg q]; exact k1
  d := s.d
  w := fun b j e => by
    have n : b ≠ a := by
      rintro rfl
      obtain ⟨o, q⟩ := ok0.ko _ _ e
      rw [h0] at q; cases q
    unfold Wd.let; dsimp only; rw [if_neg n]; exact s.w b j e
  t := fun b j => by
    unfold Wd.let; dsimp only
    by_cases n : b = a
    · subst n
      rw [if_pos rfl]
      refine ⟨fun e => ?_, fun z => by cases z⟩
      obtain ⟨o, q⟩ := (ok0.kt _ _ e).some
      rw [h0] at q; cases q
    · rw [if_neg n]; exact s.t b j
theorem let_self {w : Wd} {a : Addr} : (w.let a).k a = .oth := by unfold Wd.let; dsimp only; rw [if_pos rfl]
theorem sc_retO {i : Nat} {x : Str} {np : Pos} (hp : i ∉ pr) (hN : X.N[i]? = some x := by rfl) (hv : Vis X.env.scope x := by first | exact Or.inl rfl | exact Or.inr (Or.inl rfl) | exact Or.inr (Or.inr rfl))
    (hd : (x == ("__debug__" : Str)) = false := by decide) (hcd : (x == ("__classdict__" : Str)) = false := by decide) : SndC G X W pr (.Return (some (.Name x np)) pos) (retO i) := by
  intro w0 w st σ D ok0 r s own p
  unfold retO at p
  cases e : st[i]? with
  | none => rw [e] at p; exact p.elim
  | some sl =>
    rw [e] at p
    obtain ⟨y, hy, q⟩ := r.at_ i sl e
    have go : ∀ v, y = some v → D.rt v w.H → RunS X (.Return (some (.Name x np)) pos) D σ w.H := fun v ev hq => RunS.of (ps_ret (pe_var hN hv hd hcd)) ⟨v, by rw [hy, ev], hq⟩
    cases sl with
    | un => exact p.elim
    | fz d =>
      obtain ⟨v, rfl, q⟩ := q
      refine go v rfl (p v w σ ?_ s (Same.refl _) (Kept.refl _ _) q)
      refine ⟨r.ok, by rw [List.length_set]; exact r.len, fun j s e => ?_, r.tk⟩
      rcases set_at e with ⟨rfl, rfl⟩ | ⟨n, e⟩
      · exact ⟨_, hy, trivial⟩
      · exact r.at_ j s e
    | ml xs =>
      obtain ⟨a, vs, rfl, k, h, q⟩ := q
      have h0 := own_fresh ok0 r.ok s own k hp
      exact go _ rfl (p (.ref a) (w.let a) σ (r.let_ k) (Wd.let_step s h0 ok0) (Same.refl _) (Kept.refl _ _) ⟨a, vs, rfl, h0, let_self, h, q⟩)
    | md xs =>
      obtain ⟨a, vs, rfl, k, h, q⟩ := q
      have h0 := own_fresh ok0 r.ok s own k hp
      exact go _ rfl (p (.ref a) (w.let a) σ (r.let_ k) (Wd.let_step s h0 ok0) (Same.refl _) (Kept.refl _ _) ⟨a, vs, rfl, h0, let_self, h, q⟩)
    | mi c xs =>
      obtain ⟨a, dx, vs, rfl, k, h, q⟩ := q
      have h0 := own_fresh ok0 r.ok s own k hp
      exact go _ rfl (p (.ref a) (w.let a) σ (r.let_ k) (Wd.let_step s h0 ok0) (Same.refl _) (Kept.refl _ _) ⟨a, dx, vs, rfl, h0, let_self, h, q⟩)
end
end Rz
namespace Rz
open PySem PySem.Spec PyProof.Rows L2
section
variable (K : PySem.W.Frag) (G : Nat → Addr)
def PostU (w0 : Wd) (F : Hp) (pr : List Nat) (σ : L2.St) (W : WX) (o : Out Unit) (Q : L2.St → Hp → Prop) : Prop :=
  match o with
  | .ok _ st' => ∀ w' σ', Rel K G w' st' σ' → Step w0 w' → Same F w'.F → Kept pr σ σ' → Q σ' w'.H
  | .exc x st' => ∀ c d w' σ', Rel K G w' st' σ' → Step w0 w' → Same F w'.F → Kept pr σ σ' → ExR K G w' c d x → W c d σ' w'.H
  | .bad => False
end
section
variable {K : PySem.W.Frag} {G : Nat → Addr} {W : WX} {pr : List Nat} {w w0 w1 : Wd} {st : Env} {σ σ1 : L2.St} {Q : L2.St → Hp → Prop} {Dn : Ends}
theorem PostU.shift {F F1 : Hp} {o : Out Unit} (h : PostU K G w0 F pr σ W o Q) (f : Same F F1) (k : Kept pr σ σ1) : PostU K G w0 F1 pr σ1 W o Q := by
  cases o with
  | ok u st' => exact fun w' σ' r s f' k' => h w' σ' r s (f.trans f') (k.trans k')
  | exc x st' => exact fun c d w' σ' r s f' k' => h c d w' σ' r s (f.trans f') (k.trans k')
  | bad => exact h
theorem PostU.mono {F : Hp} {o : Out Unit} {Q' : L2.St → Hp → Prop} (h : PostU K G w0 F pr σ W o Q) (hq : ∀ σ H, Q σ H → Q' σ H) : PostU K G w0 F pr σ W o Q' := by
  cases o with
  | ok u st' => exact fun w' σ' r s f k' => hq _ _ (h w' σ' r s f k')
  | exc x st' => exact h
  | bad => exact h
theorem PostU.bindS {F : Hp} {o : Out Unit} {f : M Fl} (p : PostS K G w0 F pr σ W (o.bind fun _ => f) Dn) : PostU K G w0 F pr σ W o (fun σ' H' => ∃ w' st', w'.H = H' ∧ Rel K G w' st' σ' ∧ Step w0 w' ∧ Same F w'.F ∧ Kept pr σ σ' ∧ PostS K G w0 w'.F pr σ' W (f st') Dn) := by
  cases o with
  | ok a st' => exact fun w' σ' r s f k => ⟨w', st', rfl, r, s, f, k, PostS.shift p f k⟩
  | exc x st' => exact p
  | bad => exact p
theorem PostU.bindU {F : Hp} {o : Out Unit} {f : M Unit} (p : PostU K G w0 F pr σ W (o.bind fun _ => f) Q) : PostU K G w0 F pr σ W o (fun σ' H' => ∃ w' st', w'.H = H' ∧ Rel K G w' st' σ' ∧ Step w0 w' ∧ Same F w'.F ∧ Kept pr σ σ' ∧ PostU K G w0 w'.F pr σ' W (f st') Q) := by
  cases o with
  | ok a st' => exact fun w' σ' r s f k => ⟨w', st', rfl, r, s, f, k, PostU.shift p f k⟩
  | exc x st' => exact p
  | bad => exact p
theorem Snd.unit {α β : Type} {R : Wd → Wd → β → α → Prop} {run1 : L2.St → Hp → (β → Hp → Prop) → Prop} {m : M α} {f : α → M Unit} {Q1 : β → Hp → Prop}
    (h1 : Snd K G run1 R W m) (r : Rel K G w st σ) (s : Step w0 w) (p : PostU K G w0 w.F pr σ W (bindM m f st) Q)
    (h2 : ∀ a u w1 st1, Rel K G w1 st1 σ → Step w0 w1 → Step w w1 → R w w1 u a → PostU K G w0 w1.F pr σ W (f a st1) Q → Q1 u w1.H) : run1 σ w.H Q1 := by
  refine h1 w st σ Q1 r ?_
  unfold bindM at p
  cases e : m st with
  | ok a st1 =>
    rw [e] at p
    exact fun u w1 r1 s1 q1 => h2 a u w1 st1 r1 (s.trans r.ok r1.ok s1) s1 q1 (PostU.shift p s1.f (Kept.refl _ _))
  | exc x st1 =>
    rw [e] at p
    exact fun c d w1 r1 s1 q1 => p c d w1 σ r1 (s.trans r.ok r1.ok s1) s1.f (Kept.refl _ _) q1
  | bad => rw [e] at p; exact p
end
def RunG (X : Cx) (tg : Expr) (v : V) (σ : L2.St) (H : Hp) (Q : L2.St → Hp → Prop) : Prop := ∀ pins s u, Inv X pins σ H s → RelV v u →
  wpAny (model X.prog X.w) X.A (assign tg X.env u) (fun _ s' => ∃ σ' H', Inv X pins σ' H' s' ∧ Q σ' H') X.xe s
theorem pg_run {X : Cx} {tg : Expr} : PG X tg (RunG X tg) := ⟨fun pins s σ H v u Q I r h => h pins s u I r⟩
theorem RunG.of {X : Cx} {tg : Expr} {t : TG} {v : V} {σ : L2.St} {H : Hp} {Q : L2.St → Hp → Prop} (h : PG X tg t) (ht : t v σ H Q) : RunG X tg v σ H Q := fun pins s u I r => h.run pins s σ H v u Q I r ht
def RunGs (X : Cx) (tgs : List Expr) (vs : List V) (σ : L2.St) (H : Hp) (Q : L2.St → Hp → Prop) : Prop := ∀ pins s us, Inv X pins σ H s → Vals vs us →
  wpAny (model X.prog X.w) X.A (assignInOrder ((assignEach tgs X.env).map (·.2)) us) (fun _ s' => ∃ σ' H', Inv X pins σ' H' s' ∧ Q σ' H') X.xe s
theorem pgs_run {X : Cx} {tgs : List Expr} : PGs X tgs (RunGs X tgs) := ⟨fun pins s σ H vs us Q I r h => h pins s us I r⟩
theorem RunGs.of {X : Cx} {tgs : List Expr} {t : TGs} {vs : List V} {σ : L2.St} {H : Hp} {Q : L2.St → Hp → Prop} (h : PGs X tgs t) (ht : t vs σ H Q) : RunGs X tgs vs σ H Q := fun pins s us I r => h.run pins s σ H vs us Q I r ht
section
variable (G : Nat → Addr) (X : Cx) (W : WX) (pr : List Nat)
def SndG (tg : Expr) (g : D → M Unit) : Prop := ∀ w0 w st σ v d (Q : L2.St → Hp → Prop), w0.Ok → Rel X.K G w st σ → Step w0 w → Rep X.K G w.F v d → PostU X.K G w0 w.F pr σ W (g d st) Q → RunG X tg v σ w.H Q
def SndGs (tgs : List Expr) (g : List D → M Unit) : Prop := ∀ w0 w st σ vs ds (Q : L2.St → Hp → Prop), w0.Ok → Rel X.K G w st σ → Step w0 w → RepL X.K G w.F vs ds → PostU X.K G w0 w.F pr σ W (g ds st) Q → RunGs X tgs vs σ w.H Q
end
def tgN (i : Nat) : D → M Unit := fun d st => .ok () (st.set i (.fz d))
def tgNil : List D → M Unit
  | [] => pureM ()
  | _ => badM
def tgCons (g : D → M Unit) (gs : List D → M Unit) : List D → M Unit
  | d :: ds => bindM (g d) fun _ => gs ds
  | _ => badM
def tgT (n : Nat) (gs : List D → M Unit) : D → M Unit
  | .tup ds => if ds.length = n then gs ds else badM
  | .lst ds => if ds.length = n then gs ds else badM
  | _ => badM
def keyD : D → Option DK
  | .int i => some (.int i)
  | .str s => some (.str s)
  | _ => none
def putD {α : Type} (kvs : List (DK × α)) (k : DK) (v : α) : List (DK × α) :=
  if (kvs.any fun kv => decide (kv.1 = k)) = true then kvs.map fun kv => if kv.1 = k then (kv.1, v) else kv else kvs ++ [(k, v)]
def getK {α : Type} (kvs : List (DK × α)) (k : DK) : Option α := (kvs.find? fun kv => decide (kv.1 = k)).map (·.2)
def subM (i : Nat) (mi : M D) : D → M Unit := fun v => bindM (seeM i) fun _ => bindM mi fun ix => fun st => match st[i]? with
  | some (.ml xs) => (match ix with
    | .int k => (match ixN xs.length k with
      | some j => .ok () (st.set i (.ml (xs.set j v)))
      | none => .bad)
    | _ => .bad)
  | some (.md kvs) => (match keyD ix with
    | some k => if kvs.length < 16777216 then .ok () (st.set i (.md (putD kvs k v))) else .bad
    | none => .bad)
  | _ => .bad
section
variable {K : PySem.W.Frag} {G : Nat → Addr} {F : Hp}
theorem kyV_inj {a b : DK} : kyV a = kyV b ↔ a = b := by
  constructor
  · intro h
    cases a <;> cases b <;> first | (injection h with h; first | (subst h; rfl) | (rw [str_inj.mp h])) | cases h
  · intro h; rw [h]
theorem RepK.any {vs : List (Key × V)} {ks : List (DK × D)} (r : RepK K G F vs ks) (k : DK) : (vs.any fun kv => decide (kv.1 = kyV k)) = (ks.any fun kv => decide (kv.1 = k)) := by
  induction ks generalizing vs with
  | nil => cases r; rfl
  | cons a ks ih =>
    cases r with
    | cons q t =>
      rw [List.any_cons, List.any_cons, ih t]
      congr 1
      exact decide_eq_decide.mpr kyV_inj
theorem RepK.get {vs : List (Key × V)} {ks : List (DK × D)} (r : RepK K G F vs ks) (k : DK) : (getK ks k = none ∧ valV vs (kyV k) = none) ∨ ∃ v d, getK ks k = some d ∧ valV vs (kyV k) = some v ∧ Rep K G F v d := by
  induction ks generalizing vs with
  | nil => cases r; exact .inl ⟨rfl, rfl⟩
  | cons a ks ih =>
    cases r with
    | @cons k' v vs' d' ds' q t =>
      by_cases e : k' = k
      · subst e
        exact .inr ⟨v, d', by simp [getK], by simp [valV], q⟩
      · have e' : ¬ kyV k' = kyV k := fun z => e (kyV_inj.mp z)
        rcases ih t with ⟨h1, h2⟩ | ⟨v2, d2, h1, h2, h3⟩
        · exact .inl ⟨by simpa [getK, e] using h1, by simpa [valV, e'] using h2⟩
        · exact .inr ⟨v2, d2, by simpa [getK, e] using h1, by simpa [valV, e'] using h2, h3⟩
theorem RepK.snoc {vs : List (Key × V)} {ks : List (DK × D)} (r : RepK K G F vs ks) {k : DK} {v : V} {d : D} (q : Rep K G F v d) : RepK K G F (vs ++ [(kyV k, v)]) (ks ++ [(k, d)]) := by
  induction ks generalizing vs with
  | nil => cases r; exact .cons q .nil
  | cons a ks ih => cases r with | cons q' t => exact .cons q' (ih t)
theorem RepK.repl {vs : List (Key × V)} {ks : List (DK × D)} (r : RepK K G F vs ks) {k : DK} {v : V} {d : D} (q : Rep K G F v d) :
    RepK K G F (vs.map fun kv => if kv.1 = kyV k then (kv.1, v) else kv) (ks.map fun kv => if kv.1 = k then (kv.1, d) else kv) := by
  induction ks generalizing vs with
  | nil => cases r; exact .nil
  | cons a ks ih =>
    cases r with
    | @cons k' v' vs' d' ds' q' t =>
      rw [List.map_cons, List.map_cons]
      by_cases e : k' = k
      · subst e
        rw [if_pos rfl, if_pos rfl]
        exact .cons q (ih t)
      · rw [if_neg (fun z => e (kyV_inj.mp z)), if_neg e]
        exact .cons q' (ih t)
theorem RepK.put {vs : List (Key × V)} {ks : List (DK × D)} (r : RepK K G F vs ks) {k : DK} {v : V} {d : D} (q : Rep K G F v d) : RepK K G F (putK vs (kyV k) v) (putD ks k d) := by
  unfold putK putD
  rw [r.any k]
  split
  · exact r.repl q
  · exact r.snoc q
theorem kV_of_key {v : V} {d : D} {k : DK} (r : Rep K G F v d) (h : keyD d = some k) : v = kV (kyV k) := by
  cases r <;> first | (cases h; rfl) | cases h
end
section
variable {G : Nat → Addr} {X : Cx} {W : WX} {pr : List Nat} {e o tg : Expr} {tgs : List Expr} {pos pos' : Pos} {w w0 : Wd} {st : Env} {σ : L2.St}
theorem sg_name {i : Nat} {x : Str} (hN : X.N.Nodup) (hi : X.N[i]? = some x) (hx : Loc X.env.scope x) (hp : i ∉ pr) (hf : X.fn x = true ∨ X.env.scope.names.lookup x = some .local := by first | exact .inl rfl | exact .inr rfl | assumption) : SndG G X W pr (.Name x pos) (tgN i) :=
  fun w0 w st σ v d Q ok0 r s q p => RunG.of (pg_name hN hi hx hf) (p w _ (r.store q) s (Same.refl _) (Kept.set hp))
theorem sgs_nil : SndGs G X W pr [] tgNil := fun w0 w st σ vs ds Q ok0 r s q p => by
  cases q with
  | nil => exact RunGs.of pgs_nil ⟨rfl, p w σ r s (Same.refl _) (Kept.refl _ _)⟩
  | cons _ _ => exact p.elim
theorem sgs_cons {g : D → M Unit} {gs : List D → M Unit} (h : SndG G X W pr tg g) (h' : SndGs G X W pr tgs gs) (hs : (assignEach (tg :: tgs) X.env).map (·.2) = assign tg X.env :: (assignEach tgs X.env).map (·.2) := by rfl) : SndGs G X W pr (tg :: tgs) (tgCons g gs) := by
  intro w0 w st σ vs ds Q ok0 r s q p
  cases q with
  | nil => exact p.elim
  | @cons v vs d ds q t =>
    refine RunGs.of (pgs_cons pg_run pgs_run hs) ⟨v, vs, rfl, ?_⟩
    refine h w0 w st σ v d _ ok0 r s q ?_
    refine PostU.mono (PostU.bindU (f := gs ds) p) ?_
    rintro σ' H' ⟨w', st', rfl, r', s', f', k, p'⟩
    exact h' w0 w' st' σ' vs ds Q ok0 r' s' (t.mono f') p'
theorem sg_tup {n k : Nat} {gs : List D → M Unit} (hc : X.calm = true) (h : SndGs G X W pr tgs gs) (hn : (assignEach tgs X.env).length = n := by rfl) (hst : (assignEach tgs X.env).findIdx? (·.1) = none := by rfl) : SndG G X W pr (.Tuple tgs k pos) (tgT n gs) := by
  intro w0 w st σ v d Q ok0 r s q p
  cases q with
  | tup q t =>
    rename_i a vs ds
    have p' : PostU X.K G w0 w.F pr σ W ((if ds.length = n then gs ds else badM) st) Q := p
    by_cases hl : ds.length = n
    · rw [if_pos hl] at p'
      refine RunG.of (pg_tup hc pgs_run hn hst) ⟨a, vs, rfl, SqT.same r.ok.sub q, by rw [t.length]; exact hl, ?_⟩
      exact h w0 w st σ vs ds Q ok0 r s t p'
    · rw [if_neg hl] at p'; exact p'.elim
  | lst q t =>
    rename_i a vs ds
    have p' : PostU X.K G w0 w.F pr σ W ((if ds.length = n then gs ds else badM) st) Q := p
    by_cases hl : ds.length = n
    · rw [if_pos hl] at p'
      refine RunG.of (pg_unl hc pgs_run hn hst) ⟨a, vs, rfl, SqL.of (r.ok.sub _ _ q), by rw [t.length]; exact hl, ?_⟩
      exact h w0 w st σ vs ds Q ok0 r s t p'
    · rw [if_neg hl] at p'; exact p'.elim
  | _ => exact p.elim
theorem set_dict (hu : X.A.units + 1 < cLine) : PSet X (fun o i v H Q => ∃ a H', o = .ref a ∧ DPut H a i v H' ∧ Q H') := by
  intro pins s σ H o i v ov iv u Q I ro ri rv ⟨a, H', e, g, q⟩
  subst e
  obtain rfl : ov = Value.ref a := ro
  exact d_setItem hu I g ri rv fun s4 I4 => ⟨H', I4, q⟩
theorem PSet.or {t t' : TSet} (h : PSet X t) (h' : PSet X t') : PSet X (fun o i v H Q => t o i v H Q ∨ t' o i v H Q) := by
  intro pins s σ H o i v ov iv u Q I ro ri rv q
  rcases q with q | q
  · exact h pins s σ H o i v ov iv u Q I ro ri rv q
  · exact h' pins s σ H o i v ov iv u Q I ro ri rv q
theorem Rel.put_ml (r : Rel X.K G w st σ) {i : Nat} {a : Addr} {vs : List V} {xs : List D} (hk : w.k a = .own i) (hσ : σ[i]? = some (some (.ref a))) (q : RepL X.K G w.F vs xs) : Rel X.K G (w.put a (.lst vs)) (st.set i (.ml xs)) σ := by
  refine ⟨Wd.put_ok r.ok (by rw [hk]; intro z; cases z), by rw [List.length_set]; exact r.len, fun j s e => ?_, r.tk⟩
  rcases set_at e with ⟨rfl, rfl⟩ | ⟨n, e⟩
  · exact ⟨_, hσ, a, vs, rfl, hk, upd_same, q⟩
  · obtain ⟨x, h, q'⟩ := r.at_ j s e
    exact ⟨x, h, q'.put hk n⟩
theorem Rel.put_md (r : Rel X.K G w st σ) {i : Nat} {a : Addr} {vs : List (Key × V)} {xs : List (DK × D)} (hk : w.k a = .own i) (hσ : σ[i]? = some (some (.ref a))) (q : RepK X.K G w.F vs xs) : Rel X.K G (w.put a (.dK vs)) (st.set i (.md xs)) σ := by
  refine ⟨Wd.put_ok r.ok (by rw [hk]; intro z; cases z), by rw [List.length_set]; exact r.len, fun j s e => ?_, r.tk⟩
  rcases set_at e with ⟨rfl, rfl⟩ | ⟨n, e⟩
  · exact ⟨_, hσ, a, vs, rfl, hk, upd_same, q⟩
  · obtain ⟨x, h, q'⟩ := r.at_ j s e
    exact ⟨x, h, q'.put hk n⟩
theorem sg_sub {i : Nat} {x : Str} {np : Pos} {mi : M D} (hu : X.A.units + 1 < cLine) (hi : SndD G X W e mi)
    (ha : ∀ v, assign (.Subscript (.Name x np) e pos) X.env v = (do
      let ov ← holding [v] (eval (.Name x np) X.env)
      let iv ← holding [v, ov] (eval e X.env)
      standAt pos
      holding [v, ov, iv] (setItem ov iv v)
      release [v, ov, iv] []) := by intro _; rfl)
    (hN : X.N[i]? = some x := by rfl) (hv : Vis X.env.scope x := by first | exact Or.inl rfl | exact Or.inr (Or.inl rfl) | exact Or.inr (Or.inr rfl))
    (hd : (x == ("__debug__" : Str)) = false := by decide) (hcd : (x == ("__classdict__" : Str)) = false := by decide) : SndG G X W pr (.Subscript (.Name x np) e pos) (subM i mi) := by
  intro w0 w st σ v d Q ok0 r s q p
  refine RunG.of (pg_sub (pe_var (i := i) hN hv hd hcd) pe_run (PSet.or set_list (set_dict hu)) ha) ?_
  have hlen : i < st.length ∨ st.length ≤ i := Nat.lt_or_ge _ _
  have key : ∀ y, σ[i]? = some (some y) → RunE X e σ w.H (fun ix H2 => (rSetL y ix v H2 fun H3 => Q σ H3) ∨ ∃ a H', y = .ref a ∧ DPut H2 a ix v H' ∧ Q σ H') →
      gSub (tVar i) (RunE X e) (fun o i v H Q => rSetL o i v H Q ∨ ∃ a H', o = .ref a ∧ DPut H a i v H' ∧ Q H') v σ w.H Q := fun y hy h => ⟨y, hy, h⟩
  have main : ∀ y, σ[i]? = some (some y) → RunE X e σ w.H (fun ix H2 => (rSetL y ix v H2 fun H3 => Q σ H3) ∨ ∃ a H', y = .ref a ∧ DPut H2 a ix v H' ∧ Q σ H') := by
    intro y hy
    unfold subM bindM seeM at p
    have p' : PostU X.K G w0 w.F pr σ W (bindM mi (fun ix => fun st => match st[i]? with
  | some (.ml xs) => (match ix with
    | .int k => (match ixN xs.length k with
      | some j => .ok () (st.set i (.ml (xs.set j d)))
      | none => .bad)
    | _ => .bad)
  | some (.md kvs) => (match keyD ix with
    | some k => if kvs.length < 16777216 then .ok () (st.set i (.md (putD kvs k d))) else .bad
    | none => .bad)
  | _ => .bad) st) Q := by
      cases e0 : st[i]? with
      | none => rw [e0] at p; exact p.elim
      | some s0 => rw [e0] at p; cases s0 <;> first | exact p | exact p.elim
    refine Snd.unit (run1 := RunE X e) hi r s p' fun ix u w1 st1 r1 s1 sw q1 p1 => ?_
    cases e1 : st1[i]? with
    | none => rw [e1] at p1; exact p1.elim
    | some sl =>
      rw [e1] at p1
      obtain ⟨y', hy', q2⟩ := r1.at_ i sl e1
      rw [hy] at hy'
      cases hy'
      cases sl with
      | ml xs =>
        obtain ⟨a, vs, ea, hk, hh, qq⟩ := q2
        cases ea
        cases ix with
        | int k =>
          cases q1
          have p2 : PostU X.K G w0 w1.F pr σ W (match ixN xs.length k with | some j => .ok () (st1.set i (.ml (xs.set j d))) | none => .bad) Q := p1
          cases ej : ixN xs.length k with
          | none => rw [ej] at p2; exact p2.elim
          | some j =>
            rw [ej] at p2
            refine .inl ⟨a, vs, k, j, rfl, rfl, hh, by rw [qq.length]; exact ej, ?_⟩
            exact p2 (w1.put a (.lst (vs.set j v))) σ (r1.put_ml hk hy (qq.set (q.mono sw.f) j)) (s1.trans r1.ok (Wd.put_ok r1.ok (by rw [hk]; intro z; cases z)) (Wd.put_step r1.ok hk)) (Same.refl _) (Kept.refl _ _)
        | _ => exact p1.elim
      | md kvs =>
        obtain ⟨a, vs, ea, hk, hh, qq⟩ := q2
        cases ea
        have p2 : PostU X.K G w0 w1.F pr σ W (match keyD ix with | some k => if kvs.length < 16777216 then .ok () (st1.set i (.md (putD kvs k d))) else .bad | none => .bad) Q := p1
        cases ek : keyD ix with
        | none => rw [ek] at p2; exact p2.elim
        | some k =>
          rw [ek] at p2
          have p3 : PostU X.K G w0 w1.F pr σ W (if kvs.length < 16777216 then .ok () (st1.set i (.md (putD kvs k d))) else .bad) Q := p2
          by_cases hl : kvs.length < 16777216
          · rw [if_pos hl] at p3
            have hu' := kV_of_key q1 ek
            refine .inr ⟨a, _, rfl, ?_, p3 (w1.put a (.dK (putK vs (kyV k) v))) σ (r1.put_md hk hy (qq.put (q.mono sw.f))) (s1.trans r1.ok (Wd.put_ok r1.ok (by rw [hk]; intro z; cases z)) (Wd.put_step r1.ok hk)) (Same.refl _) (Kept.refl _ _)⟩
            rw [hu']
            exact DPut.k hh (by rw [qq.length, sizeLine_eq]; exact hl)
          · rw [if_neg hl] at p3; exact p3.elim
      | _ => exact p1.elim
  have hy : ∃ y, σ[i]? = some (some y) := by
    unfold subM bindM seeM at p
    cases e0 : st[i]? with
    | none => rw [e0] at p; exact p.elim
    | some s0 =>
      rw [e0] at p
      have ns : s0 ≠ .un := by rintro rfl; exact p
      obtain ⟨y, hy, _⟩ := see_rel r e0 ns
      exact ⟨y, hy⟩
  obtain ⟨y, hy⟩ := hy
  exact key y hy (main y hy)
theorem sc_asg {m : M D} {g : D → M Unit} (h : SndD G X W e m) (hg : SndG G X W pr tg g) (hs : swapsWithSole [tg] e pos.line X.env = pure false := by rfl) (hw : swappedStores [tg] e X.env = pure none := by rfl)
    (h1 : (assignEach [tg] X.env).map (·.2) = [assign tg X.env] := by rfl) : SndC G X W pr (.Assign [tg] e pos) (bindM m fun d => bindM (g d) fun _ => nxM) := by
  intro w0 w st σ Dn ok0 r s own p
  refine RunS.of (ps_asg pe_run pg_run hs hw h1) ?_
  refine Snd.stmt (run1 := RunE X e) h r s p fun d u w1 st1 r1 s1 sw q1 p1 => ?_
  refine hg w0 w1 st1 σ u d _ ok0 r1 s1 q1 ?_
  refine PostU.mono (PostU.bindS (f := nxM) p1) ?_
  rintro σ' H' ⟨w', st', rfl, r', s', f', k, p'⟩
  exact p' w' σ' r' s' (Same.refl _) (Kept.refl _ _)
end
end Rz
namespace Rz
open PySem PySem.Spec PyProof.Rows L2
structure RunI (X : Cx) (tg iter : Expr) (σ : L2.St) (H : Hp) (R : It → Hp → Prop) : Prop where
  run : ∀ pins s, Inv X pins σ H s → wpAny (model X.prog X.w) X.A (eval iter X.env) (fun v s1 => wpAny (model X.prog X.w) X.A (pyIter v) (PIE X pins σ tg R) X.xe s1) X.xe s
instance {X : Cx} {tg iter : Expr} {σ : L2.St} {H : Hp} {R : It → Hp → Prop} : CoeFun (RunI X tg iter σ H R) fun _ => ∀ pins s, Inv X pins σ H s → wpAny (model X.prog X.w) X.A (eval iter X.env) (fun v s1 => wpAny (model X.prog X.w) X.A (pyIter v) (PIE X pins σ tg R) X.xe s1) X.xe s := ⟨RunI.run⟩
theorem pi_run {X : Cx} {tg iter : Expr} : PI X tg iter (RunI X tg iter) := ⟨fun pins s σ H R I h => h pins s I⟩
theorem RunI.of {X : Cx} {tg iter : Expr} {wi : TI} {σ : L2.St} {H : Hp} {R : It → Hp → Prop} (h : PI X tg iter wi) (ht : wi σ H R) : RunI X tg iter σ H R := ⟨fun pins s I => h.run pins s σ H R I ht⟩
section
variable (K : PySem.W.Frag) (G : Nat → Addr)
def RI : Wd → Wd → It → List D → Prop := fun _ w' J ds => ∃ (Gp : Hp → Prop) (Y : Nat → Hp → V → Hp → Prop), Walk J ds.length Gp Y ∧ (∀ w2 : Wd, w2.Ok → Same w'.F w2.F → Gp w2.H) ∧
  ∀ i x (w2 : Wd) H', i < ds.length → w2.Ok → Same w'.F w2.F → Y i w2.H x H' → ∃ w3 d, w3.H = H' ∧ Grw w2 w3 ∧ w3.Ok ∧ ds[i]? = some d ∧ Rep K G w3.F x d
end
def SndI (G : Nat → Addr) (X : Cx) (W : WX) (tg iter : Expr) (m : M (List D)) : Prop := Snd X.K G (RunI X tg iter) (RI X.K G) W m
def forL (tgt : D → M Unit) (body : M Fl) : List D → M Fl
  | [] => nxM
  | d :: ds => bindM (tgt d) fun _ => fun st => match body st with
    | .ok .nx st' => forL tgt body ds st'
    | .ok .ct st' => forL tgt body ds st'
    | .ok .bk st' => .ok .nx st'
    | o => o
def forM' (mi : M (List D)) (tgt : D → M Unit) (body : M Fl) : M Fl := bindM mi fun ds => forL tgt body ds
section
variable {G : Nat → Addr} {X : Cx} {W : WX} {pr : List Nat} {e tg iter : Expr} {body : List Stmt} {pos pos' : Pos} {w w0 : Wd} {st : Env} {σ : L2.St}
theorem sc_for {mi : M (List D)} {g : D → M Unit} {mb : M Fl} (hpo : PassesOwn (model X.prog X.w) X.A X.env X.xe) (hc : X.calm = true) (hi : SndI G X W tg iter mi) (hg : SndG G X W pr tg g) (hb : SndB G X W pr body mb)
    (hs : ∀ x, foldedSetIterable iter X.env x = pure x := by intro _; rfl) : SndC G X W pr (.For tg iter body [] pos) (forM' mi g mb) := by
  intro w0 w st σ Dn ok0 r s own p
  refine RunS.of (ps_for hpo hc pi_run pg_run pss_run hs) ?_
  refine Snd.stmt (run1 := RunI X tg iter) hi r s p fun ds J w1 st1 r1 s1 sw q1 p1 => ?_
  obtain ⟨Gp, Y, hW, hG, hY⟩ := q1
  refine for_it hW (fun i σ' H' => ∃ w' st', w'.H = H' ∧ Rel X.K G w' st' σ' ∧ Step w0 w' ∧ Same w1.F w'.F ∧ Kept pr σ σ' ∧ PostS X.K G w0 w'.F pr σ' W (forL g mb (ds.drop i) st') Dn)
    ⟨w1, st1, rfl, r1, s1, Same.refl _, Kept.refl _ _, p1⟩ ?_ ?_ ?_
  · rintro i σ' H' _ ⟨w', st', rfl, r', s', f', k', p'⟩
    exact hG w' r'.ok f'
  · rintro i x σ' H' H2 hi' ⟨w', st', rfl, r', s', f', k', p'⟩ y
    obtain ⟨w3, d, rfl, g3, ok3, ed, q3⟩ := hY i x w' H2 hi' r'.ok f' y
    have edr : ds.drop i = d :: ds.drop (i + 1) := by
      rw [List.drop_eq_getElem_cons hi']
      rw [List.getElem?_eq_getElem hi'] at ed
      rw [Option.some.inj ed]
    rw [edr] at p'
    have r3 := r'.grow ok3 g3
    have s3 : Step w0 w3 := s'.trans r'.ok ok3 (g3.step r'.ok)
    refine hg w0 w3 st' σ' x d _ ok0 r3 s3 q3 ?_
    have p3 : PostS X.K G w0 w'.F pr σ' W ((g d st').bind fun _ => fun st => match mb st with
      | .ok .nx st' => forL g mb (ds.drop (i + 1)) st'
      | .ok .ct st' => forL g mb (ds.drop (i + 1)) st'
      | .ok .bk st' => .ok .nx st'
      | o => o) Dn := p'
    refine PostU.mono (PostU.bindS (PostS.shift p3 g3.f (Kept.refl _ _))) ?_
    rintro σ4 H4 ⟨w4, st4, rfl, r4, s4, f4, k4, p4⟩
    refine hb w0 w4 st4 σ4 _ ok0 r4 s4 own ?_
    have nxt : ∀ w' σ' st', Rel X.K G w' st' σ' → Step w0 w' → Same w4.F w'.F → Kept pr σ4 σ' → PostS X.K G w0 w4.F pr σ4 W (forL g mb (ds.drop (i + 1)) st') Dn →
        ∃ w5 st5, w5.H = w'.H ∧ Rel X.K G w5 st5 σ' ∧ Step w0 w5 ∧ Same w1.F w5.F ∧ Kept pr σ σ' ∧ PostS X.K G w0 w5.F pr σ' W (forL g mb (ds.drop (i + 1)) st5) Dn := fun w' σ' st' r' s' f5 k5 p5 =>
      ⟨w', st', rfl, r', s', (f'.trans g3.f).trans (f4.trans f5), k'.trans (k4.trans k5), PostS.shift p5 f5 k5⟩
    cases eb : mb st4 with
    | ok f5 st5 =>
      rw [eb] at p4
      cases f5 with
      | nx => exact fun w' σ' r' s' f5 k5 => nxt w' σ' st5 r' s' f5 k5 p4
      | ct => exact fun w' σ' r' s' f5 k5 => nxt w' σ' st5 r' s' f5 k5 p4
      | bk => exact p4
      | rt v => exact p4
    | exc x5 st5 => rw [eb] at p4; exact p4
    | bad => rw [eb] at p4; exact p4
  · rintro σ' H' ⟨w', st', rfl, r', s', f', k', p'⟩
    have e : ds.drop ds.length = [] := List.drop_length
    rw [e] at p'
    exact p' w' σ' r' s' (Same.refl _) (Kept.refl _ _)
def whileN (c : M Bool) (body : M Fl) : Nat → M Fl
  | 0 => badM
  | n + 1 => bindM c fun b => if b = true then fun st => match body st with
    | .ok .nx st' => whileN c body n st'
    | .ok .ct st' => whileN c body n st'
    | .ok .bk st' => .ok .nx st'
    | o => o
    else nxM
def fuel : Nat := 1048576
def whileM (c : M Bool) (body : M Fl) : M Fl := fun st => whileN c body fuel st
theorem sc_while {c : Expr} {mc : M Bool} {mb : M Fl} (hpo : PassesOwn (model X.prog X.w) X.A X.env X.xe) (hc : SndT G X W c mc) (hb : SndB G X W pr body mb) : SndC G X W pr (.While c body [] pos) (whileM mc mb) := by
  intro w0 w st σ Dn ok0 r s own p
  refine RunS.of (ps_while hpo pt_run pss_run) ?_
  refine ⟨fun n σ' H' => ∃ w' st', w'.H = H' ∧ Rel X.K G w' st' σ' ∧ Step w0 w' ∧ Same w.F w'.F ∧ Kept pr σ σ' ∧ PostS X.K G w0 w'.F pr σ' W (whileN mc mb n st') Dn, ⟨fuel, w, st, rfl, r, s, Same.refl _, Kept.refl _ _, p⟩, ?_⟩
  rintro n σ' H' ⟨w', st', rfl, r', s', f', k', p'⟩
  cases n with
  | zero => exact p'.elim
  | succ n =>
    refine Snd.stmt (run1 := RunT X c) hc r' s' p' fun b u w1 st1 r1 s1 sw q1 p1 => ?_
    subst q1
    cases u with
    | false => exact iteF (p1 w1 σ' r1 s1 (Same.refl _) (Kept.refl _ _))
    | true =>
      refine iteT ⟨fun σ2 H2 => ∃ w2 st2, w2.H = H2 ∧ Rel X.K G w2 st2 σ2 ∧ Step w0 w2 ∧ Same w.F w2.F ∧ Kept pr σ σ2 ∧ PostS X.K G w0 w2.F pr σ2 W (whileN mc mb n st2) Dn, fun σ2 H2 h => ⟨n, Nat.lt_succ_self n, h⟩, ?_⟩
      refine hb w0 w1 st1 σ' _ ok0 r1 s1 own ?_
      have p2 : PostS X.K G w0 w1.F pr σ' W (match mb st1 with
        | .ok .nx st' => whileN mc mb n st'
        | .ok .ct st' => whileN mc mb n st'
        | .ok .bk st' => .ok .nx st'
        | o => o) Dn := p1
      have nxt : ∀ w2 σ2 st2, Rel X.K G w2 st2 σ2 → Step w0 w2 → Same w1.F w2.F → Kept pr σ' σ2 → PostS X.K G w0 w1.F pr σ' W (whileN mc mb n st2) Dn →
          ∃ w5 st5, w5.H = w2.H ∧ Rel X.K G w5 st5 σ2 ∧ Step w0 w5 ∧ Same w.F w5.F ∧ Kept pr σ σ2 ∧ PostS X.K G w0 w5.F pr σ2 W (whileN mc mb n st5) Dn := fun w2 σ2 st2 r2 s2 f2 k2 p2 =>
        ⟨w2, st2, rfl, r2, s2, f'.trans (sw.f.trans f2), k'.trans k2, PostS.shift p2 f2 k2⟩
      cases eb : mb st1 with
      | ok f5 st5 =>
        rw [eb] at p2
        cases f5 with
        | nx => exact fun w2 σ2 r2 s2 f2 k2 => nxt w2 σ2 st5 r2 s2 f2 k2 p2
        | ct => exact fun w2 σ2 r2 s2 f2 k2 => nxt w2 σ2 st5 r2 s2 f2 k2 p2
        | bk => exact p2
        | rt v => exact p2
      | exc x5 st5 => rw [eb] at p2; exact p2
      | bad => rw [eb] at p2; exact p2
end
end Rz
namespace Rz
open PySem PySem.Spec PyProof.Rows L2
def W0 : WX := fun _ _ _ _ => False
def Blk (X : Cx) (scope : Scope) (X' : Cx) : Prop := ∃ s H C cl fp, X' = X.blk s H scope (compEnvC scope cl C X.env) fp
def RunCs (X : Cx) (ifs : List Expr) (σ : L2.St) (H : Hp) (Q : Bool → Hp → Prop) : Prop := ∀ pins s, Inv X pins σ H s →
  wpAny (model X.prog X.w) X.A (forIn ifs true fun c r => if r = true then do let ok ← PySem.isTrue c X.env (eval c X.env); pure (ForInStep.yield ok) else pure (ForInStep.yield r)) (TP X pins σ Q) X.xe s
theorem pts_run {X : Cx} {ifs : List Expr} : PTs X ifs (RunCs X ifs) := ⟨fun pins s σ H Q I h => h pins s I⟩
def SndCs (G : Nat → Addr) (X : Cx) (W : WX) (ifs : List Expr) (m : M Bool) : Prop := Snd X.K G (RunCs X ifs) RT W m
section
variable {G : Nat → Addr} {X : Cx} {W : WX} {c : Expr}
theorem scs_nil : SndCs G X W [] (pureM true) := fun w st σ Q r p => fun pins s I => pts_nil.run pins s σ w.H Q I (p true w r (Step.refl _) rfl)
theorem scs_one {m : M Bool} (h : SndT G X W c m) : SndCs G X W [c] m := fun w st σ Q r p => fun pins s I => (pts_one pt_run).run pins s σ w.H Q I (h w st σ Q r p)
end
def nox {α : Type} (m : M α) : M α := fun st => match m st with
  | .exc _ _ => .bad
  | o => o
theorem nox_ok {α : Type} {m : M α} {st st' : Env} {a : α} (h : m st = .ok a st') : nox m st = .ok a st' := by unfold nox; rw [h]
theorem nox_exc {α : Type} {m : M α} {st st' : Env} {x : Ex} (h : m st = .exc x st') : nox m st = .bad := by unfold nox; rw [h]
theorem nox_bad {α : Type} {m : M α} {st : Env} (h : m st = .bad) : nox m st = .bad := by unfold nox; rw [h]
def wipeE (st : Env) : List Nat → Env
  | [] => st
  | v :: vs => (wipeE st vs).set v .un
def backE (st st0 : Env) : List Nat → Env
  | [] => st
  | v :: vs => match st0[v]? with
    | some s => (backE st st0 vs).set v s
    | none => backE st st0 vs
def calmE (st : Env) (vs : List Nat) : Bool := vs.all fun v => match st[v]? with
  | some (.ml _) => false
  | some (.md _) => false
  | some (.mi _ _) => false
  | _ => true
def lcL (vs : List Nat) (tgt : D → M Unit) (mt : M Bool) (me : M D) : List D → List D → M (List D)
  | [], acc => pureM acc
  | d :: ds, acc => bindM (nox (tgt d)) fun _ => bindM (nox mt) fun b => if b = true then bindM (nox me) fun v => fun st => if acc.length < 16777216 then lcL vs tgt mt me ds (acc ++ [v]) (wipeE st vs) else .bad
    else fun st => lcL vs tgt mt me ds acc (wipeE st vs)
def lcM (vs : List Nat) (mi : M (List D)) (tgt : D → M Unit) (mt : M Bool) (me : M D) : M Sl := bindM mi fun ds => fun st =>
  if calmE st vs = true then (lcL vs tgt mt me ds [] (wipeE st vs)).bind fun acc st' => .ok (.ml acc) (backE st' st vs) else .bad
section
variable {K : PySem.W.Frag} {G : Nat → Addr} {w w' : Wd} {st st0 : Env} {σ σ0 : L2.St}
theorem wipeE_length (st : Env) : ∀ vs, (wipeE st vs).length = st.length
  | [] => rfl
  | v :: vs => by unfold wipeE; rw [List.length_set, wipeE_length st vs]
theorem backE_length (st st0 : Env) : ∀ vs, (backE st st0 vs).length = st.length
  | [] => rfl
  | v :: vs => by
    unfold backE
    split
    · rw [List.length_set, backE_length st st0 vs]
    · exact backE_length st st0 vs
theorem Rel.un (r : Rel K G w st σ) (i : Nat) (x : Option V) : Rel K G w (st.set i .un) (σ.set i x) := by
  refine ⟨r.ok, by rw [List.length_set, List.length_set]; exact r.len, fun j s e => ?_, r.tk⟩
  by_cases hj : j = i
  · subst hj
    have hl := set_get e
    rw [List.getElem?_set_self hl] at e
    cases e
    exact ⟨x, by rw [List.getElem?_set_self (by rw [r.len]; exact hl)], trivial⟩
  · rw [List.getElem?_set_ne (Ne.symm hj)] at e
    obtain ⟨y, h, q⟩ := r.at_ j s e
    exact ⟨y, by rw [List.getElem?_set_ne (Ne.symm hj)]; exact h, q⟩
theorem Rel.wipe (r : Rel K G w st σ) : ∀ vs, Rel K G w (wipeE st vs) (L2.wipe σ vs)
  | [] => r
  | v :: vs => (Rel.wipe r vs).un v none
theorem calm_slot {vs : List Nat} (h : calmE st vs = true) {i : Nat} (hi : i ∈ vs) {s : Sl} (e : st[i]? = some s) : s = .un ∨ ∃ d, s = .fz d := by
  have z := List.all_eq_true.mp h i hi
  rw [e] at z
  cases s with
  | un => exact .inl rfl
  | fz d => exact .inr ⟨d, rfl⟩
  | _ => cases z
theorem backE_get (st st0 : Env) (hl : st.length = st0.length) : ∀ (vs : List Nat) (i : Nat), (backE st st0 vs)[i]? = if i ∈ vs then st0[i]? else st[i]?
  | [], i => by simp [backE]
  | v :: vs, i => by
    have ih := backE_get st st0 hl vs i
    unfold backE
    by_cases e : i = v
    · subst e
      rw [if_pos List.mem_cons_self]
      cases q : st0[i]? with
      | none =>
        have h2 : (backE st st0 vs)[i]? = none := by
          rw [List.getElem?_eq_none_iff] at q ⊢
          rw [backE_length, hl]; exact q
        exact h2
      | some s =>
        have h1 := (List.getElem?_eq_some_iff.mp q).1
        exact List.getElem?_set_self (by rw [backE_length, hl]; exact h1)
    · have hm : (i ∈ v :: vs) ↔ i ∈ vs := by simp [e]
      simp only [hm]
      split
      · rw [List.getElem?_set_ne (fun z => e z.symm)]; exact ih
      · exact ih
theorem Rel.back {vs : List Nat} (r0 : Rel K G w st0 σ) (f : Same w.F w'.F) (hc : calmE st0 vs = true) (r : Rel K G w' st (L2.wipe σ vs)) : Rel K G w' (backE st st0 vs) σ := by
  have hl : st.length = st0.length := by rw [← r.len, wipe_length, r0.len]
  refine ⟨r.ok, by rw [backE_length, hl]; exact r0.len, fun i s e => ?_, r.tk⟩
  rw [backE_get st st0 hl vs i] at e
  by_cases hi : i ∈ vs
  · rw [if_pos hi] at e
    obtain ⟨x, h, q⟩ := r0.at_ i s e
    refine ⟨x, h, ?_⟩
    rcases calm_slot hc hi e with rfl | ⟨d, rfl⟩
    · trivial
    · obtain ⟨v, ev, q⟩ := q
      exact ⟨v, ev, q.mono f⟩
  · rw [if_neg hi] at e
    obtain ⟨x, h, q⟩ := r.at_ i s e
    rw [wipe_out hi] at h
    exact ⟨x, h, q⟩
theorem post_nox {α β : Type} {R : Wd → Wd → β → α → Prop} {m : M α} {Q : β → Hp → Prop} {W : WX} (p : Post K G R w σ W (nox m st) Q) : Post K G R w σ W0 (m st) Q := by
  unfold nox at p
  cases e : m st with
  | ok a s => rw [e] at p; exact p
  | exc x s => rw [e] at p; exact p.elim
  | bad => rw [e] at p; exact p
theorem wipe_of_kept {vs pr : List Nat} {σ σ2 : L2.St} (hp : ∀ j, j < σ.length → j ∉ vs → j ∈ pr) (hl : σ2.length = σ.length) (k : Kept pr (L2.wipe σ vs) σ2) : L2.wipe σ2 vs = L2.wipe σ vs := by
  apply List.ext_getElem?
  intro j
  by_cases hj : j ∈ vs
  · have : ∀ (τ : L2.St), τ.length = σ.length → (L2.wipe τ vs)[j]? = if j < σ.length then some none else none := by
      intro τ ht
      have aux : ∀ (us : List Nat) (τ : L2.St), j ∈ us → (L2.wipe τ us)[j]? = if j < τ.length then some none else none := by
        intro us
        induction us with
        | nil => intro τ h; cases h
        | cons u us ih =>
          intro τ h
          unfold L2.wipe
          by_cases e : u = j
          · subst e
            by_cases hlt : u < τ.length
            · rw [if_pos hlt, List.getElem?_set_self (by rw [wipe_length]; exact hlt)]
            · rw [if_neg hlt, List.getElem?_eq_none (by rw [List.length_set, wipe_length]; omega)]
          · rw [List.getElem?_set_ne e]
            exact ih τ (by rcases List.mem_cons.mp h with z | z; exact absurd z.symm e; exact z)
      rw [aux vs τ hj, ht]
    rw [this σ2 hl, this σ rfl]
  · rw [wipe_out hj, wipe_out hj]
    by_cases hlt : j < σ.length
    · have := k j (hp j hlt hj)
      rw [this, wipe_out hj]
    · rw [List.getElem?_eq_none (by omega), List.getElem?_eq_none (by omega)]
end
theorem RunG.len {X : Cx} {tg : Expr} {v : V} {σ : L2.St} {H : Hp} {Q : L2.St → Hp → Prop} (h : RunG X tg v σ H (fun σ' H' => σ'.length = X.N.length → Q σ' H')) : RunG X tg v σ H Q := fun pins s u I r =>
  thn (h pins s u I r) fun _ s' ⟨σ', H', I', q⟩ => ⟨σ', H', I', q I'.len⟩
theorem lc_ok {G : Nat → Addr} {X : Cx} {W : WX} {tg iter elt : Expr} {ifs : List Expr} {scope : Scope} {vs pr : List Nat} {mi : M (List D)} {g : D → M Unit} {mt : M Bool} {me : M D}
    (hpr : ∀ j, j < X.N.length → j ∉ vs → j ∈ pr) (hi : SndI G X W tg iter mi) (hg : ∀ X', Blk X scope X' → SndG G X' W0 pr tg g) (ht : ∀ X', Blk X scope X' → SndCs G X' W0 ifs mt) (he : ∀ X', Blk X scope X' → SndD G X' W0 elt me)
    {w : Wd} {st : Env} {σ : L2.St} {Q : VK} (hlen : σ.length = X.N.length) (r : Rel X.K G w st σ) (p : Post X.K G (RV X.K G) w σ W (lcM vs mi g mt me st) Q) :
    tLc (RunI X tg iter) (fun v σ H Q => ∀ X', Blk X scope X' → RunG X' tg v σ H Q) (fun σ H Q => ∀ X', Blk X scope X' → RunCs X' ifs σ H Q) (fun σ H Q => ∀ X', Blk X scope X' → RunE X' elt σ H Q) vs σ w.H Q := by
  refine Snd.bind (run1 := RunI X tg iter) hi older_V r p fun ds J w1 st1 r1 s1 q1 p1 => ?_
  obtain ⟨Gp, Y, hW, hG, hY⟩ := q1
  intro Da hD
  by_cases hc : calmE st1 vs = true
  · have p2 : Post X.K G (RV X.K G) w1 σ W ((lcL vs g mt me ds [] (wipeE st1 vs)).bind fun acc st' => .ok (.ml acc) (backE st' st1 vs)) Q := by
      have z : Post X.K G (RV X.K G) w1 σ W (if calmE st1 vs = true then (lcL vs g mt me ds [] (wipeE st1 vs)).bind fun acc st' => .ok (.ml acc) (backE st' st1 vs) else .bad) Q := p1
      rw [if_pos hc] at z
      exact z
    refine lc_it (g := fun v σ H Q => ∀ X', Blk X scope X' → RunG X' tg v σ H Q) (tt := fun σ H Q => ∀ X', Blk X scope X' → RunCs X' ifs σ H Q) (te := fun σ H Q => ∀ X', Blk X scope X' → RunE X' elt σ H Q) (vs := vs) (σ := σ) (Qd := fun H => Q (.ref Da) H) hW (fun i H => ∃ (w' : Wd) (st' : Env) (acc : List D) (accV : List V), w'.H = H ∧ Rel X.K G w' st' (L2.wipe σ vs) ∧ Step w1 w' ∧ w'.k Da = .oth ∧ w'.H Da = some (.lst accV) ∧ RepL X.K G w'.F accV acc ∧
        Post X.K G (RV X.K G) w1 σ W ((lcL vs g mt me (ds.drop i) acc st').bind fun acc st' => .ok (.ml acc) (backE st' st1 vs)) Q)
      ⟨w1.new Da (.lst []), wipeE st1 vs, [], [], rfl, (r1.grow (Wd.new_ok r1.ok hD) (Wd.new_grw hD)).wipe vs, (Wd.new_grw hD).step r1.ok, r1.ok.k_oth hD, upd_same, .nil, p2⟩ ?_ ?_ ?_
    · rintro i H _ ⟨w', st', acc, accV, rfl, r', s', k', h', q', p'⟩
      exact hG w' r'.ok s'.f
    · rintro i x H H2 hlt ⟨w', st', acc, accV, rfl, r', s', k', h', q', p'⟩ y
      obtain ⟨w3, d, rfl, g3, ok3, ed, q3⟩ := hY i x w' H2 hlt r'.ok s'.f y
      have edr : ds.drop i = d :: ds.drop (i + 1) := by
        rw [List.drop_eq_getElem_cons hlt]
        rw [List.getElem?_eq_getElem hlt] at ed
        rw [Option.some.inj ed]
      rw [edr] at p'
      have r3 := r'.grow ok3 g3
      have keepD : ∀ {w2 : Wd}, Step w3 w2 → w2.k Da = .oth ∧ w2.H Da = some (.lst accV) := fun {w2} s2 => by
        obtain ⟨e1, e2⟩ := s2.o Da _ (g3.h Da _ h') ((g3.k Da _ h').trans k')
        exact ⟨e2, e1⟩
      intro X' hX'
      have kx : X'.K = X.K := by obtain ⟨_, _, _, _, _, rfl⟩ := hX'; rfl
      have nx : X'.N = X.N := by obtain ⟨_, _, _, _, _, rfl⟩ := hX'; rfl
      have hg' := hg X' hX'
      unfold SndG at hg'
      rw [kx] at hg'
      have p3 : Post X.K G (RV X.K G) w1 σ W (((nox (g d) st').bind fun _ => bindM (nox mt) fun b => if b = true then bindM (nox me) fun v => fun st => if acc.length < 16777216 then lcL vs g mt me (ds.drop (i + 1)) (acc ++ [v]) (wipeE st vs) else .bad
        else fun st => lcL vs g mt me (ds.drop (i + 1)) acc (wipeE st vs)).bind fun acc st' => .ok (.ml acc) (backE st' st1 vs)) Q := p'
      refine RunG.len (hg' w3 w3 st' (L2.wipe σ vs) x d _ ok3 r3 (Step.refl _) q3 ?_)
      cases eg : g d st' with
      | bad => rw [nox_bad eg] at p3; exact p3.elim
      | exc x5 st5 => rw [nox_exc eg] at p3; exact p3.elim
      | ok u5 st5 =>
        rw [nox_ok eg] at p3
        intro w4 σ4 r4 s4 f4 k4 hl4
        rw [nx] at hl4
        have hw4 : L2.wipe σ4 vs = L2.wipe σ vs := wipe_of_kept (pr := pr) (fun j hj hn => hpr j (by rw [← hlen]; exact hj) hn) (by rw [hl4, hlen]) k4
        refine ⟨hw4, ?_⟩
        intro X2 hX2
        have kx2 : X2.K = X.K := by obtain ⟨_, _, _, _, _, rfl⟩ := hX2; rfl
        have ht' := ht X2 hX2
        unfold SndCs Snd at ht'
        rw [kx2] at ht'
        refine ht' w4 st5 σ4 _ r4 ?_
        have p4 : Post X.K G (RV X.K G) w1 σ W ((((nox mt) st5).bind fun b => if b = true then bindM (nox me) fun v => fun st => if acc.length < 16777216 then lcL vs g mt me (ds.drop (i + 1)) (acc ++ [v]) (wipeE st vs) else .bad
          else fun st => lcL vs g mt me (ds.drop (i + 1)) acc (wipeE st vs)).bind fun acc st' => .ok (.ml acc) (backE st' st1 vs)) Q := p3
        have next : ∀ (w6 : Wd) (st6 : Env) (acc6 : List D) (accV6 : List V), Rel X.K G w6 st6 σ4 → Step w3 w6 → w6.k Da = .oth → w6.H Da = some (.lst accV6) → RepL X.K G w6.F accV6 acc6 →
            Post X.K G (RV X.K G) w1 σ W ((lcL vs g mt me (ds.drop (i + 1)) acc6 (wipeE st6 vs)).bind fun acc st' => .ok (.ml acc) (backE st' st1 vs)) Q →
            ∃ (w' : Wd) (st' : Env) (acc : List D) (accV : List V), w'.H = w6.H ∧ Rel X.K G w' st' (L2.wipe σ vs) ∧ Step w1 w' ∧ w'.k Da = .oth ∧ w'.H Da = some (.lst accV) ∧ RepL X.K G w'.F accV acc ∧
              Post X.K G (RV X.K G) w1 σ W ((lcL vs g mt me (ds.drop (i + 1)) acc st').bind fun acc st' => .ok (.ml acc) (backE st' st1 vs)) Q := fun w6 st6 acc6 accV6 r6 s6 k6 h6 q6 p6 =>
          ⟨w6, wipeE st6 vs, acc6, accV6, rfl, by rw [← hw4]; exact r6.wipe vs, (s'.trans r'.ok ok3 (g3.step r'.ok)).trans ok3 r6.ok s6, k6, h6, q6, p6⟩
        cases et : mt st5 with
        | bad => rw [nox_bad et] at p4; exact p4.elim
        | exc x6 st6 => rw [nox_exc et] at p4; exact p4.elim
        | ok b st6 =>
          rw [nox_ok et] at p4
          intro b' w5 r5 s5 hb'
          subst hb'
          cases b' with
          | false =>
            refine iteF ?_
            obtain ⟨kD, hD5⟩ := keepD (s4.trans r4.ok r5.ok s5)
            exact next w5 st6 acc accV r5 (s4.trans r4.ok r5.ok s5) kD hD5 (q'.mono (g3.f.trans (s4.trans r4.ok r5.ok s5).f)) p4
          | true =>
            refine iteT ?_
            intro X3 hX3
            have kx3 : X3.K = X.K := by obtain ⟨_, _, _, _, _, rfl⟩ := hX3; rfl
            have he' := he X3 hX3
            unfold SndD Snd at he'
            rw [kx3] at he'
            refine he' w5 st6 σ4 _ r5 ?_
            have p5 : Post X.K G (RV X.K G) w1 σ W ((((nox me) st6).bind fun v => fun st => if acc.length < 16777216 then lcL vs g mt me (ds.drop (i + 1)) (acc ++ [v]) (wipeE st vs) else .bad).bind
              fun acc st' => .ok (.ml acc) (backE st' st1 vs)) Q := p4
            cases ee : me st6 with
            | bad => rw [nox_bad ee] at p5; exact p5.elim
            | exc x7 st7 => rw [nox_exc ee] at p5; exact p5.elim
            | ok dv st7 =>
              rw [nox_ok ee] at p5
              intro y w6 r6 s6 q6
              have s36 := (s4.trans r4.ok r5.ok s5).trans r5.ok r6.ok s6
              obtain ⟨kD, hD6⟩ := keepD s36
              have qa : RepL X.K G w6.F accV acc := q'.mono (g3.f.trans s36.f)
              have p6 : Post X.K G (RV X.K G) w1 σ W ((if acc.length < 16777216 then lcL vs g mt me (ds.drop (i + 1)) (acc ++ [dv]) (wipeE st7 vs) else .bad : Out (List D)).bind fun acc st' => .ok (.ml acc) (backE st' st1 vs)) Q := p5
              by_cases hz : acc.length < 16777216
              · rw [if_pos hz] at p6
                refine ⟨accV, hD6, by rw [qa.length, sizeLine_eq]; exact hz, ?_⟩
                have nf : w6.k Da ≠ .frz := by rw [kD]; intro z; cases z
                have r7 : Rel X.K G (w6.put Da (.lst (accV ++ [y]))) st7 σ4 := by
                  refine ⟨Wd.put_ok r6.ok nf, r6.len, fun j s e => ?_, r6.tk⟩
                  obtain ⟨x, hx, q⟩ := r6.at_ j s e
                  refine ⟨x, hx, ?_⟩
                  cases s with
                  | un => trivial
                  | fz d => exact q
                  | ml xs =>
                    obtain ⟨b, vs', e1, k, hh, rr⟩ := q
                    have n : b ≠ Da := by rintro rfl; rw [kD] at k; cases k
                    exact ⟨b, vs', e1, k, by unfold Wd.put; dsimp only; rw [upd_ne n]; exact hh, rr⟩
                  | md xs =>
                    obtain ⟨b, vs', e1, k, hh, rr⟩ := q
                    have n : b ≠ Da := by rintro rfl; rw [kD] at k; cases k
                    exact ⟨b, vs', e1, k, by unfold Wd.put; dsimp only; rw [upd_ne n]; exact hh, rr⟩
                  | mi c xs =>
                    obtain ⟨b, dx, vs', e1, k, hh, rr⟩ := q
                    have n : b ≠ Da := by rintro rfl; rw [kD] at k; cases k
                    exact ⟨b, dx, vs', e1, k, by unfold Wd.put; dsimp only; rw [upd_ne n]; exact hh, rr⟩
                refine ⟨w6.put Da (.lst (accV ++ [y])), wipeE st7 vs, acc ++ [dv], accV ++ [y], rfl, by rw [← hw4]; exact r7.wipe vs, ?_, kD, upd_same, qa.append (.cons q6 .nil), p6⟩
                have s16 := (s'.trans r'.ok ok3 (g3.step r'.ok)).trans ok3 r6.ok s36
                exact ⟨s16.f, fun b o e k => by
                  obtain ⟨e1, k1⟩ := s16.o b o e k
                  have n : b ≠ Da := by rintro rfl; rw [hD] at e; cases e
                  exact ⟨by unfold Wd.put; dsimp only; rw [upd_ne n]; exact e1, k1⟩, fun b e => by
                  unfold Wd.put at e; dsimp only at e
                  by_cases n : b = Da
                  · subst n; rw [upd_same] at e; cases e
                  · rw [upd_ne n] at e; exact s16.d b e, s16.t, s16.w⟩
              · rw [if_neg hz] at p6; exact p6.elim
    · rintro H ⟨w', st', acc, accV, rfl, r', s', k', h', q', p'⟩
      have e : ds.drop ds.length = [] := List.drop_length
      rw [e] at p'
      exact p' (.ref Da) w' (r1.back s'.f hc r') s' ⟨Da, accV, rfl, hD, k', h', q'⟩
  · have z : Post X.K G (RV X.K G) w1 σ W (if calmE st1 vs = true then (lcL vs g mt me ds [] (wipeE st1 vs)).bind fun acc st' => .ok (.ml acc) (backE st' st1 vs) else .bad) Q := p1
    rw [if_neg hc] at z
    exact z.elim
section
variable {G : Nat → Addr} {X : Cx} {W : WX} {tg iter elt : Expr} {ifs : List Expr} {scope : Scope} {own : List (Str × Nat)} {pr prS : List Nat} {mi : M (List D)} {g : D → M Unit} {mt : M Bool} {me : M D} {pos spos : Pos}
theorem snd_lc (hc : X.calm = true) (hN : X.N.Nodup) (ok : BlkOk X.N X.env.scope scope own) (hpr : ∀ j, j < X.N.length → j ∉ own.map (·.2) → j ∈ pr) (hi : SndI G X W tg iter mi)
    (hg : ∀ X', Blk X scope X' → SndG G X' W0 pr tg g) (ht : ∀ X', Blk X scope X' → SndCs G X' W0 ifs mt) (he : ∀ X', Blk X scope X' → SndD G X' W0 elt me) (hs : ∀ x, foldedSetIterable iter X.env x = pure x := by intro _; rfl) :
    SndV G X W (.ListComp elt [⟨tg, iter, ifs, 0⟩] scope pos) (lcM (own.map (·.2)) mi g mt me) := by
  intro w st σ Q r p; refine ⟨fun pins s I => ?_⟩
  refine (pe_lc (g := fun v σ H Q => ∀ X', Blk X scope X' → RunG X' tg v σ H Q) (tt := fun σ H Q => ∀ X', Blk X scope X' → RunCs X' ifs σ H Q) (te := fun σ H Q => ∀ X', Blk X scope X' → RunE X' elt σ H Q) hc hN pi_run ok
    (fun s H C cl fp => ⟨fun pins s' σ H v u Q I r h => h _ ⟨s, _, C, cl, fp, rfl⟩ pins s' u I r⟩) (fun s H C cl fp => ⟨fun pins s' σ H Q I h => h _ ⟨s, _, C, cl, fp, rfl⟩ pins s' I⟩) (fun s H C cl fp => ⟨fun pins s' σ H Q I h => h _ ⟨s, _, C, cl, fp, rfl⟩ pins s' I⟩) hs).run pins s σ w.H Q I ?_
  exact lc_ok hpr hi hg ht he I.len r p
theorem RunS.len {X : Cx} {s : Stmt} {Dn : Ends} {σ : L2.St} {H : Hp} (h : σ.length = X.N.length → RunS X s Dn σ H) : RunS X s Dn σ H := ⟨fun pins s I => h I.len pins s I⟩
theorem sc_lc {i : Nat} {y : Str} {py : Pos} (hc : X.calm = true) (hN : X.N.Nodup) (hy : X.N[i]? = some y) (hl : X.env.scope.names.lookup y = some .local) (hp : i ∉ prS)
    (hsw : swapsWith (.ListComp elt [⟨tg, iter, ifs, 0⟩] scope pos) (some (.Name y py)) spos.line X.env = pure true) (ok : BlkOk X.N X.env.scope scope own) (hpr : ∀ j, j < X.N.length → j ∉ own.map (·.2) → j ∈ pr) (hi : SndI G X W tg iter mi)
    (hg : ∀ X', Blk X scope X' → SndG G X' W0 pr tg g) (ht : ∀ X', Blk X scope X' → SndCs G X' W0 ifs mt) (he : ∀ X', Blk X scope X' → SndD G X' W0 elt me) (hs : ∀ x, foldedSetIterable iter X.env x = pure x := by intro _; rfl) :
    SndC G X W prS (.Assign [.Name y py] (.ListComp elt [⟨tg, iter, ifs, 0⟩] scope pos) spos) (putM i (lcM (own.map (·.2)) mi g mt me)) := by
  intro w0 w st σ Dn ok0 r s own' p
  refine RunS.len fun hlen => ?_
  refine RunS.of (ps_setLc (g := fun v σ H Q => ∀ X', Blk X scope X' → RunG X' tg v σ H Q) (tt := fun σ H Q => ∀ X', Blk X scope X' → RunCs X' ifs σ H Q) (te := fun σ H Q => ∀ X', Blk X scope X' → RunE X' elt σ H Q) hc hN hy hl hsw pi_run ok
    (fun s H C cl fp => ⟨fun pins s' σ H v u Q I r h => h _ ⟨s, _, C, cl, fp, rfl⟩ pins s' u I r⟩) (fun s H C cl fp => ⟨fun pins s' σ H Q I h => h _ ⟨s, _, C, cl, fp, rfl⟩ pins s' I⟩) (fun s H C cl fp => ⟨fun pins s' σ H Q I h => h _ ⟨s, _, C, cl, fp, rfl⟩ pins s' I⟩) hs) ?_
  have hS : Snd X.K G (fun σ H Q => σ.length = X.N.length → tLc (RunI X tg iter) (fun v σ H Q => ∀ X', Blk X scope X' → RunG X' tg v σ H Q) (fun σ H Q => ∀ X', Blk X scope X' → RunCs X' ifs σ H Q) (fun σ H Q => ∀ X', Blk X scope X' → RunE X' elt σ H Q) (own.map (·.2)) σ H Q) (RV X.K G) W (lcM (own.map (·.2)) mi g mt me) :=
    fun w st σ Q r p hl => lc_ok hpr hi hg ht he hl r p
  refine Snd.stmt hS r s p (fun v u w1 st1 r1 s1 sw q1 p1 => ?_) hlen
  obtain ⟨w2, e2, f2, r2, s2⟩ := r1.put ok0 r.ok s s1 (i := i) q1
  show Dn.nx (σ.set i (some u)) w1.H
  rw [← e2]
  exact p1 w2 _ r2 s2 (by rw [f2]; exact Same.refl _) (Kept.set hp)
end
end Rz
namespace Rz
open PySem PySem.Spec PyProof.Rows L2
inductive SrcK where
  | lst (a : Addr) | tup (a : Addr) | txt (z : Str)
def SrcK.v : SrcK → V
  | .lst a => .ref a
  | .tup a => .ref a
  | .txt z => .str z
def SrcH (K : PySem.W.Frag) (H : Hp) (k : SrcK) (vs : List V) : Prop := match k with
  | .lst a => SqL K H a vs
  | .tup a => SqT K H a vs
  | .txt z => vs = z.cps.toList.map fun c => V.str ⟨#[c]⟩
def ISt (k : SrcK) (t : Tok) (it : Addr) (i : Nat) (h : Heap) : Prop := match k with
  | .lst a => h.IsListIter it a i
  | .tup a => h.IsTupleIter it a i
  | .txt z => h.IsStrIter it (strIterType z) z t i
def SrcK.obj (k : SrcK) (t : Tok) : Obj := match k with
  | .lst a => { cls := .type "list_iterator", data := .fields #[.ref a, .int 0 0] }
  | .tup a => { cls := .type "tuple_iterator", data := .fields #[.ref a, .int 0 0] }
  | .txt z => { cls := .type (strIterType z), data := .fields #[.str z t, .int 0 0] }
def SrcK.val (k : SrcK) (t : Tok) : Value := match k with
  | .lst a => .ref a
  | .tup a => .ref a
  | .txt z => .str z t
theorem SrcK.rel {k : SrcK} {u : Value} (r : RelV k.v u) : ∃ t, u = k.val t := by
  cases k with
  | lst a => cases r; exact ⟨0, rfl⟩
  | tup a => cases r; exact ⟨0, rfl⟩
  | txt z => obtain ⟨t, rfl⟩ := r; exact ⟨t, rfl⟩
theorem ISt.keep {k : SrcK} {t : Tok} {it : Addr} {i : Nat} {h h' : Heap} (x : ISt k t it i h) (kp : ∀ o, h.get? it = some o → h'.get? it = some o) : ISt k t it i h' := by
  cases k with
  | lst a => exact x.at kp
  | tup a => obtain ⟨o, e, c, d⟩ := x; exact ⟨o, kp o e, c, d⟩
  | txt z => obtain ⟨o, e, c, d⟩ := x; exact ⟨o, kp o e, c, d⟩
theorem ISt.obj {k : SrcK} {t : Tok} {it : Addr} {i : Nat} {h : Heap} (x : ISt k t it i h) : ∃ o, h.get? it = some o ∧ ∀ v, o.data ≠ .cell v := by
  cases k with
  | lst a => obtain ⟨o, e, c, d⟩ := x; exact ⟨o, e, fun v z => by rw [d] at z; cases z⟩
  | tup a => obtain ⟨o, e, c, d⟩ := x; exact ⟨o, e, fun v z => by rw [d] at z; cases z⟩
  | txt z => obtain ⟨o, e, c, d⟩ := x; exact ⟨o, e, fun v z => by rw [d] at z; cases z⟩
theorem ISt.new {k : SrcK} {t : Tok} {it : Addr} {h : Heap} (e : h.get? it = some (k.obj t)) : ISt k t it 0 h := by
  cases k with
  | lst a => exact ⟨_, e, rfl, rfl⟩
  | tup a => exact ⟨_, e, rfl, rfl⟩
  | txt z => exact ⟨_, e, rfl, rfl⟩
section
variable {X : Cx} {pins : List (Addr × Obj)} {σ : L2.St} {H : Hp} {s : Shared}
theorem SrcH.ne {k : SrcK} {vs : List V} (I : Inv X pins σ H s) (S : SrcH X.K H k vs) {e : Addr} (f : FpOk X pins H e) : k.v ≠ .ref e := by
  have own : ∀ o, X.K.lookup e = some o → False := fun o h => by
    have b := I.ok.mod.kin e o h
    rcases f.2.2.2.1 with z | z
    · exact I.ok.noex e o b z
    · exact absurd (Nat.lt_of_lt_of_le (Heap.lt_size (I.ok.bs e o b).1) z) (Nat.lt_irrefl _)
  intro q
  cases k with
  | lst a =>
    cases q
    rcases S with (S | ⟨o, S⟩) | ⟨o, _, _, S, _⟩
    · rw [f.1] at S; cases S
    · rw [f.1] at S; cases S
    · exact own o S
  | tup a =>
    cases q
    rcases S with (S | ⟨o, S⟩) | ⟨o, _, _, S, _⟩
    · rw [f.1] at S; cases S
    · rw [f.1] at S; cases S
    · exact own o S
  | txt z => cases q
theorem SrcH.inj {k : SrcK} {vs ws : List V} (I : Inv X pins σ H s) (S : SrcH X.K H k vs) (S' : SrcH X.K H k ws) : vs = ws := by
  cases k with
  | lst a => exact I.list_inj S S'
  | tup a => exact I.tuple_inj S S'
  | txt z => exact Eq.trans S (Eq.symm S')
theorem SrcH.draws {A : Around} {k : SrcK} {vs : List V} {t : Tok} {it : Addr} {i : Nat} (hh : A.handled = none) (I : Inv X pins σ H s) (S : SrcH X.K H k vs) (f : FpOk X pins H it) (x : ISt k t it i s.heap) :
    ∃ (fp : List Addr) (P : Nat → Value → Prop) (St : Nat → Heap → Prop), Draws X.prog X.w A it fp vs.length P St ∧ St i s.heap ∧ (∀ j y, P j y → ∃ z, vs[j]? = some z ∧ RelV z y) ∧ (∀ j h', St j h' → ISt k t it j h') ∧ it ∈ fp ∧ ∀ b ∈ fp, b = it ∨ k.v = .ref b := by
  have hne := S.ne I f
  cases k with
  | lst a =>
    obtain ⟨its, r, p, hz⟩ := I.list S
    have hl := r.length
    have na : a ≠ it := fun z => hne (by rw [z]; rfl)
    refine ⟨[it, a], fun i v => its.toArray[i]? = some v, fun i h => h.IsListIter it a i ∧ h.IsList a its.toArray, by have := Draws.list (prog := X.prog) (w := X.w) hh it a na its.toArray; rw [List.size_toArray, ← hl] at this; exact this, ⟨x, p.isList⟩, fun j y hy => ?_, fun j h' st => st.1, by simp, fun b hb => ?_⟩
    · have hy : its.toArray[j]? = some y := hy
      cases e : vs[j]? with
      | none => have := r.none_of e; rw [show its.toArray[j]? = its[j]? by simp] at hy; rw [this] at hy; cases hy
      | some z =>
        obtain ⟨u, hu, ru⟩ := r.get e
        rw [show its.toArray[j]? = its[j]? by simp, hu] at hy
        cases hy
        exact ⟨z, rfl, ru⟩
    · rcases List.mem_cons.mp hb with z | z
      · exact .inl z
      · rcases List.mem_cons.mp z with z | z
        · exact .inr (by rw [z]; rfl)
        · cases z
  | tup a =>
    obtain ⟨its, r, p, hz⟩ := I.tuple S
    have hl := r.length
    have na : a ≠ it := fun z => hne (by rw [z]; rfl)
    refine ⟨[it, a], fun i v => its.toArray[i]? = some v, fun i h => h.IsTupleIter it a i ∧ h.IsTuple a its.toArray, by have := Draws.tuple (prog := X.prog) (w := X.w) hh it a na its.toArray; rw [List.size_toArray, ← hl] at this; exact this, ⟨x, p⟩, fun j y hy => ?_, fun j h' st => st.1, by simp, fun b hb => ?_⟩
    · have hy : its.toArray[j]? = some y := hy
      cases e : vs[j]? with
      | none => have := r.none_of e; rw [show its.toArray[j]? = its[j]? by simp] at hy; rw [this] at hy; cases hy
      | some z =>
        obtain ⟨u, hu, ru⟩ := r.get e
        rw [show its.toArray[j]? = its[j]? by simp, hu] at hy
        cases hy
        exact ⟨z, rfl, ru⟩
    · rcases List.mem_cons.mp hb with z | z
      · exact .inl z
      · rcases List.mem_cons.mp z with z | z
        · exact .inr (by rw [z]; rfl)
        · cases z
  | txt z =>
    have ev : vs = z.cps.toList.map fun c => V.str ⟨#[c]⟩ := S
    subst ev
    have hl : (z.cps.toList.map fun c => V.str ⟨#[c]⟩).length = z.cps.size := by simp
    rw [hl]
    refine ⟨[it], _, _, Draws.text (prog := X.prog) (w := X.w) hh it z t, x, fun j y hy => ?_, fun j h' st => st, by simp, fun b hb => .inl (by simpa using hb)⟩
    obtain ⟨c, u, hc, rfl⟩ := hy
    exact ⟨.str ⟨#[c]⟩, by rw [List.getElem?_map]; simp [hc], u, rfl⟩
theorem SrcH.begins {k : SrcK} {vs : List V} (t : Tok) (I : Inv X pins σ H s) (S : SrcH X.K H k vs) : ∃ Hyp : Heap → Prop, Begins (k.val t) (k.obj t) Hyp ∧ Hyp s.heap := by
  cases k with
  | lst a => obtain ⟨its, r, p, hz⟩ := I.list S; exact ⟨_, begins_list a its.toArray, p.isList⟩
  | tup a => obtain ⟨its, r, p, hz⟩ := I.tuple S; exact ⟨_, begins_tuple a its.toArray, p⟩
  | txt z => exact ⟨_, begins_text z t, trivial⟩
end
section
set_option maxHeartbeats 4000000 in
theorem meets_enumerate_new1 {v : Value} {o : Obj} {H : Heap → Prop} (B : Begins v o H) :
    Meets (Builtin.«enumerate.__new__» ⟨[.type "enumerate", v], []⟩) (fun _ R s => H s.heap ∧
      R (.ok (.ret (.ref (s.heap.push o).objs.size))) { s with heap := (s.heap.push o).push { cls := .type "enumerate", data := .fields #[.none, .bool false, .ref s.heap.objs.size, rawInt 0, .none, .none] } }) :=
  .of_wp fun prog w A R s h => by
    obtain ⟨hp, g, d, tk, os⟩ := s; obtain ⟨h1, h⟩ := h
    have hsub := sub_enumerate
    have q1 : ∀ {A' : Around} {E : Value → Shared → Prop} {Q : Value → Shared → Prop}, Q (.ref hp.objs.size) ⟨hp.push o, g, d, tk, os⟩ → wpAny (model prog w) A' (pyIter v) Q E ⟨hp, g, d, tk, os⟩ :=
      fun q => B.iter prog w _ _ ⟨hp, g, d, tk, os⟩ _ h1 q
    wp_walk using q1
    refine wpAny_stack_any fun st => wpAny_pure ?_
    split
    · rename_i c _ _ _ _ _
      cases (c == Value.type "enumerate")
      · wp_walk using q1
        exact ⟨_, rfl, h⟩
      · wp_walk using q1
        exact ⟨_, rfl, h⟩
    · wp_walk using q1
      exact ⟨_, rfl, h⟩
theorem enum_begins1 {prog : Program} {w : World} {A : Around} {E : Value → Shared → Prop} {s : Shared} {v : Value} {o : Obj} {H : Heap → Prop} {Q : Value → Shared → Prop} (B : Begins v o H) (h1 : H s.heap)
    (h : ∀ h', IsEnum h' (s.heap.objs.size + 1) s.heap.objs.size 0 .none → h'.get? s.heap.objs.size = some o → h'.objs.size = s.heap.objs.size + 2 →
      (∀ b o, s.heap.get? b = some o → h'.get? b = some o) → Q (.ref (s.heap.objs.size + 1)) { s with heap := h' }) :
    wpAny (model prog w) A (call (.type "enumerate") [v]) Q E s := by
  refine callType_new F.called_enumerate (by decide) (F.typeCall_enumerate_1 _) (F.newCall_enumerate_1 _) (fun obj => F.args_object_init_2 obj _) F.entry_enumerate_new
    (meets_enumerate_new1 B) ⟨h1, ?_⟩
  have hz : (s.heap.push o).objs.size = s.heap.objs.size + 1 := Heap.size_push ..
  show _ ∧ _
  rw [hz]
  have he : IsEnum ((s.heap.push o).push { cls := .type "enumerate", data := .fields #[.none, .bool false, .ref s.heap.objs.size, rawInt 0, .none, .none] }) (s.heap.objs.size + 1) s.heap.objs.size 0 .none := by
    have := Heap.get?_push_size (s.heap.push o) (o := { cls := .type "enumerate", data := .fields #[.none, .bool false, .ref s.heap.objs.size, rawInt 0, .none, .none] }) rfl
    rw [hz] at this; exact this
  refine ⟨⟨_, he, rfl⟩, h _ he (Heap.get?_push_of_some _ (Heap.get?_push_size _ B.free)) (by rw [Heap.size_push, hz]) fun b o x => Heap.get?_push_of_some _ (Heap.get?_push_of_some _ x)⟩
end
def ItE (K : PySem.W.Frag) (k : SrcK) : It :=
  ⟨fun i H => ∃ vs x, SrcH K H k vs ∧ vs[i]? = some x, fun i H v H' => ∃ T x, v = .ref T ∧ H T = none ∧ H' = upd H T (.tup [.int (i : Nat), x]) ∧ ∀ vs, SrcH K H k vs → vs[i]? = some x, fun i H => ∃ vs, SrcH K H k vs ∧ vs.length = i⟩
theorem turn_enumS {P : Program} {w : World} {K : PySem.W.Frag} {elts : List Expr} {kk : Nat} {tpos : Pos} (k : SrcK) (t : Tok) (e it : Addr) :
    Turn P w K (.Tuple elts kk tpos) (ItE K k) [e, it] e (fun i h => (∃ old, IsEnum h e it ((0 : Int) + (i : Nat)) old) ∧ ISt k t it i h ∧ e ≠ it) where
  mem := by simp
  obj := fun i h st b hb => by
    obtain ⟨⟨old, he⟩, hi, _⟩ := st
    have e' : b = e ∨ b = it := by simpa using hb
    rcases e' with z | z
    · rw [z]; exact ⟨_, he, fun v q => nomatch q⟩
    · rw [z]; exact hi.obj
  keep := fun i h h' st kp => let ⟨⟨old, he⟩, hi, hne⟩ := st; ⟨⟨old, kp e (by simp) _ he⟩, hi.keep fun o q => kp it (by simp) o q, hne⟩
  item := by
    intro X hP hw hK hc i pins s σ H E I hf st hg
    subst hP hw hK
    obtain ⟨⟨old, he⟩, hit, hne⟩ := st
    obtain ⟨vs, x, hS, hx⟩ := hg
    have fe := hf e (by simp)
    have fi := hf it (by simp)
    obtain ⟨fp, Pd, St, D, st0, hP, hSt, hm, hfp⟩ := SrcH.draws (A := X.A.in1) (I.ok.hd hc) I hS fi hit
    have hef : e ∉ fp := fun z => by
      rcases hfp e z with q | q
      · exact hne q
      · exact hS.ne I fe q
    have hlt : i < vs.length := (List.getElem?_eq_some_iff.mp hx).1
    refine (GoesN.enumFrom (elts := elts) (x1 := kk) (pos := tpos) 0 D e hne hef hm).goes i s _ E hlt ⟨⟨old, he⟩, st0⟩ fun v h' tk hY st' kp _ => ?_
    obtain ⟨T, t', y, rfl, hT, hPy, hTup⟩ := hY
    obtain ⟨z, hz, rz⟩ := hP i y hPy
    rw [hx] at hz; cases hz
    obtain ⟨he', st''⟩ := st'
    have new : ObjOk X.prog X.w (upd H T (.tup [.int (i : Nat), x])) h' T (.tup [.int (i : Nat), x]) :=
      ⟨by show 2 ≤ sizeLine; decide, [.int (0 + (i : Nat)) t', y], .cons ⟨t', by simp⟩ (.cons rz .nil), hTup⟩
    have hf2 : ∀ b ∈ [e, it], FpOk X pins H b := hf
    have I1 := I.turnedNew (t' := tk) kp hf2 hT new
    refine ⟨.ref T, _, I1, rfl, ⟨T, x, rfl, I.hok.fresh hT, rfl, fun ws hw => by rw [hw.inj I hS]; exact hx⟩, ⟨he', hSt _ _ st'', hne⟩, fun b hb => ?_⟩
    have hbn := (hf b hb).1
    have hbT : b ≠ T := by
      have e' : b = e ∨ b = it := by simpa using hb
      have : b < s.heap.objs.size := by
        rcases e' with z | z
        · rw [z]; exact Heap.lt_size he
        · rw [z]; obtain ⟨o, q, _⟩ := hit.obj; exact Heap.lt_size q
      exact Nat.ne_of_lt (Nat.lt_of_lt_of_le this hT)
    rw [upd_ne hbT]; exact hbn
  done := by
    intro X hP hw hK hc i pins s σ H E I hf st hg
    subst hP hw hK
    obtain ⟨⟨old, he⟩, hit, hne⟩ := st
    obtain ⟨vs, hS, hx⟩ := hg
    have fe := hf e (by simp)
    have fi := hf it (by simp)
    obtain ⟨fp, Pd, St, D, st0, hP, hSt, hm, hfp⟩ := SrcH.draws (A := X.A.in1) (I.ok.hd hc) I hS fi hit
    have hef : e ∉ fp := fun z => by
      rcases hfp e z with q | q
      · exact hne q
      · exact hS.ne I fe q
    subst hx
    exact (GoesN.enumFrom (elts := elts) (x1 := kk) (pos := tpos) 0 D e hne hef hm).stops s _ E ⟨⟨old, he⟩, st0⟩ fun h' tk kp _ => I.turnedL (ch := [e, it]) (t' := tk) kp hf
  self := fun A i s Q E st h => let ⟨⟨_, he⟩, _⟩ := st; wpAny_pyIter_enum he h
section
variable {K : PySem.W.Frag} {k : SrcK} {vs : List V}
theorem walk_enumS : Walk (ItE K k) vs.length (fun H => SrcH K H k vs) (YPair (fun i => some (.int (i : Nat))) (fun i => vs[i]?)) := by
  refine ⟨fun i _ hi q => ⟨vs, vs[i], q, by simp [hi]⟩, fun _ q => ⟨vs, q, rfl⟩, fun i H v H' _ q y => ?_⟩
  obtain ⟨T, x, h1, h2, h3, h4⟩ := y
  exact ⟨T, .int (i : Nat), x, h1, h2, h3, rfl, h4 vs q⟩
end
theorem pi_enumS {X : Cx} {e : Expr} {p pos tpos : Pos} {elts : List Expr} {kk : Nat} {σ : L2.St} {H : Hp} {R : It → Hp → Prop} (hg : Gl X "enumerate") (hm : X.mg "enumerate" = none)
    (h : RunE X e σ H fun x H1 => ∃ k vs, x = k.v ∧ SrcH X.K H1 k vs ∧ R (ItE X.K k) H1) (hs : starEach [e] X.env = [(false, eval e X.env)] := by rfl) :
    RunI X (.Tuple elts kk tpos) (.Call (.Name "enumerate" p) [e] [] pos) σ H R := by
  refine ⟨fun pins s I => ?_⟩
  refine Call_ (ld_blt I hg hm boot_enumerate (PyProof.Rows.callWith_type1 (thn ((pa_cons (pe_run (e := e)) pa_nil (hs := hs)).run pos pins s σ H (fun xs H1 => ∃ x, xs = [x] ∧ ∃ k vs, x = k.v ∧ SrcH X.K H1 k vs ∧ R (ItE X.K k) H1) I ?_) fun us s1 ⟨xs, H1, I1, r1, q1⟩ => ?_) hs rfl))
  · exact RunE.mk fun pins' s' I' => thn (h pins' s' I') fun v s2 ⟨x, H2, I2, r, q⟩ => ⟨x, H2, I2, r, x, rfl, q⟩
  · obtain ⟨x, ex, k, vs, ev, hS, q⟩ := q1
    subst ex ev
    cases r1 with
    | cons r rr =>
      cases rr
      obtain ⟨t, rfl⟩ := SrcK.rel r
      obtain ⟨Hyp, B, hB⟩ := hS.begins t I1
      refine enum_begins1 B hB fun h' he hit hsz hk => wpAny_pyIter_enum he ?_
      have I2 : Inv X pins σ H1 { s1 with heap := h' } := I1.kept (t' := s1.toks) hk
      refine ⟨s1.heap.objs.size + 1, [s1.heap.objs.size + 1, s1.heap.objs.size], _, _, H1, rfl, I2, turn_enumS k t (s1.heap.objs.size + 1) s1.heap.objs.size, ⟨⟨.none, by simpa using he⟩, ISt.new hit, Nat.succ_ne_self _⟩, fun b hb => ?_, q⟩
      have e' : b = s1.heap.objs.size + 1 ∨ b = s1.heap.objs.size := by simpa using hb
      have hle : s1.heap.objs.size ≤ b := by
        rcases e' with z | z
        · rw [z]; exact Nat.le_add_right _ _
        · rw [z]; exact Nat.le_refl _
      exact I1.fpOk hle (I1.hok.fresh hle)
def ItZ (K : PySem.W.Frag) (k l : SrcK) : It :=
  ⟨fun i H => ∃ vs ws x y, SrcH K H k vs ∧ SrcH K H l ws ∧ vs[i]? = some x ∧ ws[i]? = some y,
    fun i H v H' => ∃ T x y, v = .ref T ∧ H T = none ∧ H' = upd H T (.tup [x, y]) ∧ (∀ vs, SrcH K H k vs → vs[i]? = some x) ∧ ∀ ws, SrcH K H l ws → ws[i]? = some y,
    fun i H => ∃ vs ws, SrcH K H k vs ∧ SrcH K H l ws ∧ min vs.length ws.length = i⟩
structure Apart5 (z TI TO i1 i2 : Addr) : Prop where
  TIz : TI ≠ z
  TOz : TO ≠ z
  TITO : TI ≠ TO
  TIi1 : TI ≠ i1
  TIi2 : TI ≠ i2
  zi1 : z ≠ i1
  zi2 : z ≠ i2
  Ti1 : TO ≠ i1
  Ti2 : TO ≠ i2
  ii : i1 ≠ i2
theorem apart5 (n : Nat) : Apart5 (n + 4 : Nat) (n + 2 : Nat) (n + 3 : Nat) n (n + 1 : Nat) :=
  ⟨show (n + 2 : Nat) ≠ n + 4 by omega, show (n + 3 : Nat) ≠ n + 4 by omega, show (n + 2 : Nat) ≠ n + 3 by omega, show (n + 2 : Nat) ≠ n by omega, show (n + 2 : Nat) ≠ n + 1 by omega,
    show (n + 4 : Nat) ≠ n by omega, show (n + 4 : Nat) ≠ n + 1 by omega, show (n + 3 : Nat) ≠ n by omega, show (n + 3 : Nat) ≠ n + 1 by omega, show (n : Nat) ≠ n + 1 by omega⟩
theorem turn_zipS {P : Program} {w : World} {K : PySem.W.Frag} {elts : List Expr} {kk : Nat} {tpos : Pos} (k l : SrcK) (t u : Tok) {z TI TO i1 i2 : Addr} (D : Apart5 z TI TO i1 i2) :
    Turn P w K (.Tuple elts kk tpos) (ItZ K k l) [z, TI, TO, i1, i2] z (fun i h => IsZip h z TI TO .none ∧ IsTupOf2 h TI (.ref i1) (.ref i2) ∧ (∃ x y, IsTupOf2 h TO x y) ∧ ISt k t i1 i h ∧ ISt l u i2 i h) where
  mem := by simp
  obj := fun i h st c hc => by
    obtain ⟨hz, hTI, ⟨x, y, hTO⟩, h1, h2⟩ := st
    have e' : c = z ∨ c = TI ∨ c = TO ∨ c = i1 ∨ c = i2 := by simpa using hc
    rcases e' with q | q | q | q | q
    · rw [q]; exact ⟨_, hz, fun v q => nomatch q⟩
    · rw [q]; exact ⟨_, hTI, fun v q => nomatch q⟩
    · rw [q]; exact ⟨_, hTO, fun v q => nomatch q⟩
    · rw [q]; exact h1.obj
    · rw [q]; exact h2.obj
  keep := fun i h h' st kp => by
    obtain ⟨hz, hTI, ⟨x, y, hTO⟩, h1, h2⟩ := st
    exact ⟨kp z (by simp) _ hz, kp TI (by simp) _ hTI, ⟨x, y, kp TO (by simp) _ hTO⟩, h1.keep fun o q => kp i1 (by simp) o q, h2.keep fun o q => kp i2 (by simp) o q⟩
  item := by
    intro X hP hw hK hc i pins s σ H E I hf st hg
    subst hP hw hK
    obtain ⟨hz, hTI, hTO, h1, h2⟩ := st
    obtain ⟨vs, ws, x, y, hS, hT, hx, hy⟩ := hg
    have fz := hf z (by simp)
    have fTI := hf TI (by simp)
    have fTO := hf TO (by simp)
    have f1 := hf i1 (by simp)
    have f2 := hf i2 (by simp)
    obtain ⟨fp, Pd, St, D1, st1, hP1, hSt1, hm1, hfp1⟩ := SrcH.draws (A := X.A.in1) (I.ok.hd hc) I hS f1 h1
    obtain ⟨gp, Pe, Su, D2, st2, hP2, hSt2, hm2, hfp2⟩ := SrcH.draws (A := X.A.in1) (I.ok.hd hc) I hT f2 h2
    have o1 : ∀ c, FpOk X pins H c → c ≠ i1 → c ∉ fp := fun c f n q => by
      rcases hfp1 c q with q | q
      · exact n q
      · exact hS.ne I f q
    have o2 : ∀ c, FpOk X pins H c → c ≠ i2 → c ∉ gp := fun c f n q => by
      rcases hfp2 c q with q | q
      · exact n q
      · exact hT.ne I f q
    have S : ZipSep2 z TI TO i1 i2 fp gp := ⟨D.TIz, D.TOz, D.TITO, D.TIi1, hm1, o1 z fz D.zi1, o1 TO fTO D.Ti1, D.TIi2, hm2, o2 z fz D.zi2, o2 TO fTO D.Ti2, o2 i1 f1 D.ii, o1 i2 f2 (Ne.symm D.ii)⟩
    have hlt : i < min vs.length ws.length := by
      have a1 := (List.getElem?_eq_some_iff.mp hx).1
      have a2 := (List.getElem?_eq_some_iff.mp hy).1
      omega
    refine (GoesN.zip2 (elts := elts) (x1 := kk) (pos := tpos) S D1 D2).goes i s _ E hlt ⟨hz, hTI, hTO, st1, st2⟩ fun v h' tk hY st' kp _ => ?_
    obtain ⟨T, px, py, rfl, hTn, hPx, hPy, hTup⟩ := hY
    obtain ⟨zx, hzx, rzx⟩ := hP1 i px hPx
    obtain ⟨zy, hzy, rzy⟩ := hP2 i py hPy
    rw [hx] at hzx; cases hzx
    rw [hy] at hzy; cases hzy
    obtain ⟨hz', hTI', hTO', st1', st2'⟩ := st'
    have new : ObjOk X.prog X.w (upd H T (.tup [x, y])) h' T (.tup [x, y]) := ⟨by show 2 ≤ sizeLine; decide, [px, py], .cons rzx (.cons rzy .nil), hTup⟩
    have hf2 : ∀ b ∈ [z, TO, i1, i2], FpOk X pins H b := fun b hb => by
      have e' : b = z ∨ b = TO ∨ b = i1 ∨ b = i2 := by simpa using hb
      rcases e' with q | q | q | q <;> rw [q] <;> assumption
    have I1 := I.turnedNew (t' := tk) kp hf2 hTn new
    refine ⟨.ref T, _, I1, rfl, ⟨T, x, y, rfl, I.hok.fresh hTn, rfl, fun l hl => by rw [hl.inj I hS]; exact hx, fun l hl => by rw [hl.inj I hT]; exact hy⟩, ⟨hz', hTI', hTO', hSt1 _ _ st1', hSt2 _ _ st2'⟩, fun b hb => ?_⟩
    have hbT : b ≠ T := by
      have : b < s.heap.objs.size := by
        obtain ⟨a1, a2, hTO⟩ := hTO
        have e' : b = z ∨ b = TI ∨ b = TO ∨ b = i1 ∨ b = i2 := by simpa using hb
        rcases e' with q | q | q | q | q
        · rw [q]; exact Heap.lt_size hz
        · rw [q]; exact Heap.lt_size hTI
        · rw [q]; exact Heap.lt_size hTO
        · rw [q]; obtain ⟨o, q, _⟩ := h1.obj; exact Heap.lt_size q
        · rw [q]; obtain ⟨o, q, _⟩ := h2.obj; exact Heap.lt_size q
      exact Nat.ne_of_lt (Nat.lt_of_lt_of_le this hTn)
    rw [upd_ne hbT]; exact (hf b hb).1
  done := by
    intro X hP hw hK hc i pins s σ H E I hf st hg
    subst hP hw hK
    obtain ⟨hz, hTI, hTO, h1, h2⟩ := st
    obtain ⟨vs, ws, hS, hT, hi⟩ := hg
    have fz := hf z (by simp)
    have fTI := hf TI (by simp)
    have fTO := hf TO (by simp)
    have f1 := hf i1 (by simp)
    have f2 := hf i2 (by simp)
    obtain ⟨fp, Pd, St, D1, st1, hP1, hSt1, hm1, hfp1⟩ := SrcH.draws (A := X.A.in1) (I.ok.hd hc) I hS f1 h1
    obtain ⟨gp, Pe, Su, D2, st2, hP2, hSt2, hm2, hfp2⟩ := SrcH.draws (A := X.A.in1) (I.ok.hd hc) I hT f2 h2
    have o1 : ∀ c, FpOk X pins H c → c ≠ i1 → c ∉ fp := fun c f n q => by
      rcases hfp1 c q with q | q
      · exact n q
      · exact hS.ne I f q
    have o2 : ∀ c, FpOk X pins H c → c ≠ i2 → c ∉ gp := fun c f n q => by
      rcases hfp2 c q with q | q
      · exact n q
      · exact hT.ne I f q
    have S : ZipSep2 z TI TO i1 i2 fp gp := ⟨D.TIz, D.TOz, D.TITO, D.TIi1, hm1, o1 z fz D.zi1, o1 TO fTO D.Ti1, D.TIi2, hm2, o2 z fz D.zi2, o2 TO fTO D.Ti2, o2 i1 f1 D.ii, o1 i2 f2 (Ne.symm D.ii)⟩
    have hf2 : ∀ b ∈ [z, TO, i1, i2], FpOk X pins H b := fun b hb => by
      have e' : b = z ∨ b = TO ∨ b = i1 ∨ b = i2 := by simpa using hb
      rcases e' with q | q | q | q <;> rw [q] <;> assumption
    subst hi
    exact (GoesN.zip2 (elts := elts) (x1 := kk) (pos := tpos) S D1 D2).stops s _ E ⟨hz, hTI, hTO, st1, st2⟩ fun h' tk kp _ => I.turnedL (t' := tk) kp hf2
  self := fun A i s Q E st h => wpAny_pyIter_zip st.1 h
section
variable {K : PySem.W.Frag} {k l : SrcK} {vs ws : List V}
theorem walk_zipS {n : Nat} (hn : n = min vs.length ws.length) : Walk (ItZ K k l) n (fun H => SrcH K H k vs ∧ SrcH K H l ws) (YPair (fun i => vs[i]?) (fun i => ws[i]?)) := by
  subst hn
  refine ⟨fun i _ hi q => ⟨vs, ws, vs[i]'(by omega), ws[i]'(by omega), q.1, q.2, by simp [show i < vs.length by omega], by simp [show i < ws.length by omega]⟩, fun _ q => ⟨vs, ws, q.1, q.2, rfl⟩, fun i H v H' _ q y => ?_⟩
  obtain ⟨T, x, y, h1, h2, h3, h4, h5⟩ := y
  exact ⟨T, x, y, h1, h2, h3, h4 vs q.1, h5 ws q.2⟩
end
theorem pi_zipS {X : Cx} {e f : Expr} {p pos tpos : Pos} {elts : List Expr} {kk : Nat} {σ : L2.St} {H : Hp} {R : It → Hp → Prop} (hg : Gl X "zip") (hm : X.mg "zip" = none)
    (h : RunL X [e, f] σ H fun xs H1 => ∃ k l vs ws, xs = [k.v, l.v] ∧ SrcH X.K H1 k vs ∧ SrcH X.K H1 l ws ∧ R (ItZ X.K k l) H1) (ha : PA X [e, f] (RunL X [e, f]))
    (hs : starEach [e, f] X.env = [(false, eval e X.env), (false, eval f X.env)] := by rfl) (hs2 : starEach [f] X.env = [(false, eval f X.env)] := by rfl) :
    RunI X (.Tuple elts kk tpos) (.Call (.Name "zip" p) [e, f] [] pos) σ H R := by
  refine ⟨fun pins s I => ?_⟩
  refine Call_ (ld_blt I hg hm boot_zip (PyProof.Rows.callWith_type1 (thn (ha.run pos pins s σ H _ I h) fun us s1 ⟨xs, H1, I1, r1, q1⟩ => ?_) (by rw [hs, hs2]) (by rw [hs2]; rfl)))
  obtain ⟨k, l, vs, ws, ev, hS, hT, q⟩ := q1
  subst ev
  cases r1 with
  | cons r rr =>
    cases rr with
    | cons r' rr =>
      cases rr
      obtain ⟨t, rfl⟩ := SrcK.rel r
      obtain ⟨u, rfl⟩ := SrcK.rel r'
      obtain ⟨Hyp, B, hB⟩ := hS.begins t I1
      obtain ⟨Hyp', B', hB'⟩ := hT.begins u I1
      refine zip_begins2 B B' hB hB' fun h' hz hTI hTO hi1 hi2 hsz hk => wpAny_pyIter_zip hz ?_
      have I2 : Inv X pins σ H1 { s1 with heap := h' } := I1.kept (t' := s1.toks) hk
      refine ⟨s1.heap.objs.size + 4, [s1.heap.objs.size + 4, s1.heap.objs.size + 2, s1.heap.objs.size + 3, s1.heap.objs.size, s1.heap.objs.size + 1], _, _, H1, rfl, I2,
        turn_zipS k l t u (apart5 _), ⟨hz, hTI, ⟨_, _, hTO⟩, ISt.new hi1, ISt.new hi2⟩, fun b hb => ?_, q⟩
      have hle : s1.heap.objs.size ≤ b := by
        have e' : b = s1.heap.objs.size + 4 ∨ b = s1.heap.objs.size + 2 ∨ b = s1.heap.objs.size + 3 ∨ b = s1.heap.objs.size ∨ b = s1.heap.objs.size + 1 := by simpa using hb
        rcases e' with e | e | e | e | e <;> rw [e]
        · exact Nat.le_add_right _ 4
        · exact Nat.le_add_right _ 2
        · exact Nat.le_add_right _ 3
        · exact Nat.le_refl _
        · exact Nat.le_add_right _ 1
      exact I1.fpOk hle (I1.hok.fresh hle)
end Rz
namespace Rz
open PySem PySem.Spec PyProof.Rows L2
def kD : DK → D
  | .int i => .int i
  | .str s => .str s
def srcD : D → Option (List D)
  | .lst xs => some xs
  | .tup xs => some xs
  | .str s => some (s.map fun c => .str [c])
  | .scr xs => some (xs.map .int)
  | _ => none
def itD : D → Option (List D)
  | .dct ks => some (ks.map fun kv => kD kv.1)
  | d => srcD d
def rangeL (lo : Int) (n : Nat) : List D := (List.range n).map fun i => .int (lo + (i : Nat))
def enumL : Nat → List D → List D
  | _, [] => []
  | i, x :: xs => .tup [.int i, x] :: enumL (i + 1) xs
def zipL : List D → List D → List D
  | x :: xs, y :: ys => .tup [x, y] :: zipL xs ys
  | _, _ => []
def itemsL : List (DK × D) → List D
  | [] => []
  | kv :: ks => .tup [kD kv.1, kv.2] :: itemsL ks
theorem enumL_get : ∀ (xs : List D) (k i : Nat), (enumL k xs)[i]? = xs[i]?.map fun x => .tup [.int (k + i : Nat), x]
  | [], k, i => by simp [enumL]
  | x :: xs, k, 0 => by simp [enumL]
  | x :: xs, k, i + 1 => by
    have := enumL_get xs (k + 1) i
    simp only [enumL, List.getElem?_cons_succ]
    have e : k + 1 + i = k + (i + 1) := by omega
    rw [e] at this
    exact this
theorem enumL_length : ∀ (xs : List D) (k : Nat), (enumL k xs).length = xs.length
  | [], k => rfl
  | x :: xs, k => congrArg Nat.succ (enumL_length xs (k + 1))
theorem zipL_length : ∀ (xs ys : List D), (zipL xs ys).length = min xs.length ys.length
  | [], ys => by simp [zipL]
  | x :: xs, [] => by simp [zipL]
  | x :: xs, y :: ys => by simp [zipL, zipL_length xs ys]
theorem zipL_get : ∀ (xs ys : List D) (i : Nat) (x y : D), xs[i]? = some x → ys[i]? = some y → (zipL xs ys)[i]? = some (.tup [x, y])
  | [], ys, i, x, y, h, h' => by simp at h
  | a :: xs, [], i, x, y, h, h' => by simp at h'
  | a :: xs, b :: ys, 0, x, y, h, h' => by simp at h h'; subst h; subst h'; rfl
  | a :: xs, b :: ys, i + 1, x, y, h, h' => by
    simp only [zipL, List.getElem?_cons_succ] at h h' ⊢
    exact zipL_get xs ys i x y h h'
theorem itemsL_length : ∀ (ks : List (DK × D)), (itemsL ks).length = ks.length
  | [] => rfl
  | x :: xs => congrArg Nat.succ (itemsL_length xs)
theorem itemsL_get : ∀ (ks : List (DK × D)) (i : Nat), (itemsL ks)[i]? = ks[i]?.map fun kv => .tup [kD kv.1, kv.2]
  | [], i => by simp [itemsL]
  | x :: xs, 0 => by simp [itemsL]
  | x :: xs, i + 1 => by
    simp only [itemsL, List.getElem?_cons_succ]
    exact itemsL_get xs i
section
variable {K : PySem.W.Frag} {G : Nat → Addr} {F : Hp} {w w' w0 : Wd}
theorem rep_kD (k : DK) : Rep K G F (kV (kyV k)) (kD k) := by
  cases k with
  | int i => exact .int i
  | str s => exact .str s
theorem RepK.getV : ∀ {vs : List (Key × V)} {ds : List (DK × D)} {i : Nat} {k : Key} {v : V}, RepK K G F vs ds → vs[i]? = some (k, v) → ∃ kk d, ds[i]? = some (kk, d) ∧ k = kyV kk ∧ Rep K G F v d
  | _, _, _, _, _, .nil, e => by simp at e
  | _, _, 0, _, _, .cons r _, e => by simp at e; obtain ⟨rfl, rfl⟩ := e; exact ⟨_, _, rfl, rfl, r⟩
  | _, _, i + 1, k, v, .cons _ t, e => by
    obtain ⟨kk, d, h1, h2, h3⟩ := RepK.getV (i := i) (k := k) (v := v) t (by simpa using e)
    exact ⟨kk, d, by simpa using h1, h2, h3⟩
theorem rep_signs : ∀ s : List Nat, RepL K G F (s.map fun c => V.str ⟨#[c]⟩) (s.map fun c => D.str [c])
  | [] => .nil
  | c :: s => .cons (.str [c]) (rep_signs s)
theorem rep_ints : ∀ s : List Int, RepL K G F (s.map V.int) (s.map D.int)
  | [] => .nil
  | c :: s => .cons (.int c) (rep_ints s)
theorem SqL.same {a : Addr} {vs : List V} {F' : Hp} (h : Same F F') (q : SqL K F a vs) : SqL K F' a vs := Same.seq h q
theorem src_of {v : V} {d : D} {ds : List D} (r : Rep K G F v d) (h : srcD d = some ds) : ∃ k vs, v = SrcK.v k ∧ (∀ H, Same F H → SrcH K H k vs) ∧ RepL K G F vs ds := by
  cases r with
  | tup q r => cases h; exact ⟨.tup _, _, rfl, fun H s => SqT.same s q, r⟩
  | lst q r => cases h; exact ⟨.lst _, _, rfl, fun H s => .inl (.inl (s _ _ q)), r⟩
  | str s => cases h; exact ⟨.txt ⟨s.toArray⟩, _, rfl, fun H _ => rfl, by simpa using rep_signs s⟩
  | scr q => cases h; exact ⟨.lst _, _, rfl, fun H s => SqL.same s q, rep_ints _⟩
  | _ => cases h
theorem ri_fn {J : It} {n : Nat} {Gp : Hp → Prop} {Y : Nat → Hp → V → Hp → Prop} {ds : List D} (hn : n = ds.length) (hW : Walk J n Gp Y) (hG : ∀ w2 : Wd, w2.Ok → Same w'.F w2.F → Gp w2.H)
    (r : ∀ i x (w2 : Wd) H', w2.Ok → Same w'.F w2.F → Y i w2.H x H' → ∃ w3 d, w3.H = H' ∧ Grw w2 w3 ∧ w3.Ok ∧ ds[i]? = some d ∧ Rep K G w3.F x d) : RI K G w0 w' J ds := by
  subst hn
  exact ⟨Gp, Y, hW, hG, fun i x w2 H' _ ok f y => r i x w2 H' ok f y⟩
theorem ri_at {J : It} {n : Nat} {Gp : Hp → Prop} {vs : List V} {ds : List D} (hn : n = ds.length) (hW : Walk J n Gp (YAt vs)) (hG : ∀ w2 : Wd, w2.Ok → Same w'.F w2.F → Gp w2.H) (r : RepL K G w'.F vs ds) : RI K G w0 w' J ds := by
  subst hn
  refine ⟨Gp, YAt vs, hW, hG, fun i x w2 H' hi ok f y => ?_⟩
  obtain ⟨rfl, e⟩ := y
  obtain ⟨d, e1, q⟩ := r.getV e
  exact ⟨w2, d, rfl, Grw.refl _, ok, e1, q.mono f⟩
theorem ri_pair {J : It} {n : Nat} {Gp : Hp → Prop} {xs ys : Nat → Option V} {ds : List D} (hn : n = ds.length) (hW : Walk J n Gp (YPair xs ys)) (hG : ∀ w2 : Wd, w2.Ok → Same w'.F w2.F → Gp w2.H)
    (r : ∀ i x y, xs i = some x → ys i = some y → ∃ dx dy, ds[i]? = some (.tup [dx, dy]) ∧ Rep K G w'.F x dx ∧ Rep K G w'.F y dy) : RI K G w0 w' J ds := by
  subst hn
  refine ⟨Gp, YPair xs ys, hW, hG, fun i v w2 H' hi ok f y => ?_⟩
  obtain ⟨T, x, y, rfl, hT, rfl, ex, ey⟩ := y
  obtain ⟨dx, dy, e1, q1, q2⟩ := r i x y ex ey
  have g := Wd.frz_grw ok (o := .tup [x, y]) hT
  exact ⟨w2.frz T (.tup [x, y]), .tup [dx, dy], rfl, g, Wd.frz_ok ok hT, e1, .tup (.inl (.inl upd_same)) (.cons (q1.mono (f.trans g.f)) (.cons (q2.mono (f.trans g.f)) .nil))⟩
end
def itM (m : M D) : M (List D) := bindM m fun d => liftM (itD d)
def rng1 : List D → Option (List D)
  | [.int j] => if -(2 ^ 62) ≤ j ∧ j < 2 ^ 62 then some (rangeL 0 j.toNat) else none
  | _ => none
def rng2 : List D → Option (List D)
  | [.int i, .int j] => if -(2 ^ 62) ≤ i ∧ i < 2 ^ 62 ∧ -(2 ^ 62) ≤ j ∧ j < 2 ^ 62 then some (rangeL i (j - i).toNat) else none
  | _ => none
def rng1M (ml : M (List D)) : M (List D) := bindM ml fun ds => liftM (rng1 ds)
def rng2M (ml : M (List D)) : M (List D) := bindM ml fun ds => liftM (rng2 ds)
def enumM (m : M D) : M (List D) := bindM m fun d => liftM ((srcD d).map (enumL 0))
def zipM (m m' : M D) : M (List D) := bindM m fun d => bindM m' fun d' => liftM ((srcD d).bind fun xs => (srcD d').map fun ys => zipL xs ys)
def itemsD : D → Option (List D)
  | .dct ks => some (itemsL ks)
  | _ => none
def valsD : D → Option (List D)
  | .dct ks => some (ks.map (·.2))
  | _ => none
def itemsM (m : M D) : M (List D) := bindM m fun d => liftM (itemsD d)
def valsM (m : M D) : M (List D) := bindM m fun d => liftM (valsD d)
section
variable {G : Nat → Addr} {X : Cx} {W : WX} {e e2 tg : Expr} {pos p tpos apos cpos : Pos} {elts : List Expr} {kk : Nat} {w w' : Wd} {st : Env} {σ : L2.St}
theorem post_it {K : PySem.W.Frag} {f : D → Option (List D)} {m : M D} {R : It → Hp → Prop} {W : WX} (p : Post K G (RI K G) w σ W (bindM m (fun d => liftM (f d)) st) R) :
    Post K G (RD K G) w σ W (m st) (fun x H => ∃ w1 d ds, w1.H = H ∧ w1.Ok ∧ Rep K G w1.F x d ∧ (∃ st', m st = .ok d st') ∧ f d = some ds ∧ ∀ J, RI K G w w1 J ds → R J H) := by
  unfold bindM at p
  cases e : m st with
  | bad => rw [e] at p; exact p
  | exc x s => rw [e] at p; exact p
  | ok d s =>
    rw [e] at p
    have p : Post K G (RI K G) w σ W ((liftM (f d) : M (List D)) s) R := p
    intro u w' r' s' q
    cases eg : f d with
    | none => rw [eg] at p; exact p.elim
    | some ds => rw [eg] at p; exact ⟨w', d, ds, rfl, r'.ok, q, ⟨s, rfl⟩, eg, fun J q => p J w' r' s' q⟩
theorem si_it {m : M D} (h : SndD G X W e m) : SndI G X W tg e (itM m) := by
  intro w st σ R r p
  have hr := h w st σ _ r (post_it p)
  have sh : ∀ {k : SrcK} {vs ws : List V} {w1 : Wd} {ds : List D}, RepL X.K G w1.F vs ds → vs.length = ds.length := fun r => r.length
  cases em : m st with
  | bad => unfold itM bindM at p; rw [em] at p; exact p.elim
  | exc x s =>
    refine RunI.of (pi_list pe_run) (h w st σ _ r ?_)
    unfold itM bindM at p; rw [em] at p; rw [em]; exact p
  | ok d s =>
    have use : ∀ (Q : VK), (∀ v w1, w1.Ok → Rep X.K G w1.F v d → ∀ ds, itD d = some ds → (∀ J, RI X.K G w w1 J ds → R J w1.H) → Q v w1.H) → RunE X e σ w.H Q := fun Q hq => by
      refine h w st σ Q r ?_
      have p1 := post_it p
      rw [em] at p1 ⊢
      intro u w' r' s' q
      obtain ⟨w1, d1, ds, e1, ok1, q1, ⟨st1, e2⟩, e3, q4⟩ := p1 u w' r' s' q
      cases e2
      rw [← e1]
      exact hq u w1 ok1 q1 ds e3 (by rw [e1]; exact q4)
    cases d with
    | lst xs =>
      refine RunI.of (pi_list pe_run) (use _ fun v w1 ok1 q1 ds e3 q4 => ?_)
      cases e3
      cases q1 with
      | lst q rr => exact ⟨_, rfl, ⟨_, .inl (.inl (ok1.sub _ _ q))⟩, q4 _ (ri_at rr.length walk_list (fun w2 ok2 f => .inl (.inl (ok2.sub _ _ (f _ _ q)))) rr)⟩
    | scr xs =>
      refine RunI.of (pi_list pe_run) (use _ fun v w1 ok1 q1 ds e3 q4 => ?_)
      cases e3
      cases q1 with
      | scr q => exact ⟨_, rfl, ⟨_, SqL.same ok1.sub q⟩, q4 _ (ri_at (by simp) walk_list (fun w2 ok2 f => SqL.same ok2.sub (SqL.same f q)) (rep_ints _))⟩
    | tup xs =>
      refine RunI.of (pi_tup pe_run) (use _ fun v w1 ok1 q1 ds e3 q4 => ?_)
      cases e3
      cases q1 with
      | tup q rr => exact ⟨_, rfl, ⟨_, SqT.same ok1.sub q⟩, q4 _ (ri_at rr.length walk_tup (fun w2 ok2 f => SqT.same ok2.sub (SqT.same f q)) rr)⟩
    | str s =>
      refine RunI.of (pi_str pe_run) (use _ fun v w1 ok1 q1 ds e3 q4 => ?_)
      cases e3
      cases q1
      refine ⟨_, rfl, q4 _ (ri_at (vs := s.map fun c => V.str ⟨#[c]⟩) (Gp := fun _ => True) (n := s.toArray.size) (by simp) (walk_str.mono (fun _ _ => trivial) fun i H x H' hi _ y => ?_) (fun _ _ _ => trivial) (rep_signs s))⟩
      obtain ⟨e1, c, e2, e3⟩ := y
      exact ⟨e1, by rw [e3, List.getElem?_map]; simp at e2; simp [e2]⟩
    | dct ks =>
      refine RunI.of (pi_keys pe_run) (use _ fun v w1 ok1 q1 ds e3 q4 => ?_)
      cases e3
      cases q1 with
      | dct q rr =>
        refine ⟨_, _, rfl, .inl ⟨_, ok1.sub _ _ q, q4 _ ?_⟩⟩
        refine ri_fn (by rw [List.length_map]; exact rr.length) walk_keys (fun w2 ok2 f => ok2.sub _ _ (f _ _ q)) fun i x w2 H' ok2 f y => ?_
        obtain ⟨rfl, k, v, e1, rfl⟩ := y
        obtain ⟨k2, d2, h1, rfl, h3⟩ := rr.getV e1
        exact ⟨w2, _, rfl, Grw.refl _, ok2, by rw [List.getElem?_map, h1]; rfl, rep_kD k2⟩
    | _ => unfold itM bindM at p; rw [em] at p; exact p.elim
theorem si_items {m : M D} (h : SndD G X W e m) (hbase : attributeBase e "items" X.env (eval e X.env) = eval e X.env := by rfl) (hline : (apos.endLine == cpos.line) = true := by rfl) :
    SndI G X W (.Tuple elts kk tpos) (.Call (.Attribute e "items" apos) [] [] cpos) (itemsM m) := by
  intro w st σ R r p
  refine RunI.of (pi_items pe_run hbase hline) (?_ : RunE X e σ w.H _)
  refine RunE.mk fun pins s I => thn (h w st σ _ r (post_it p) pins s I) fun v s1 ⟨x, H1, I1, rx, w1, d, ds, e1, ok1, q1, _, e3, q4⟩ => ?_
  refine ⟨x, H1, I1, rx, ?_⟩
  subst e1
  cases q1 with
  | dct q rr =>
    cases e3
    refine ⟨_, _, _, rfl, ok1.sub _ _ q, q4 _ (ri_pair (by rw [itemsL_length]; exact rr.length) walk_items (fun w2 ok2 f => ok2.sub _ _ (f _ _ q)) fun i x y ex ey => ?_)⟩
    obtain ⟨kv, e5, rfl⟩ := Option.map_eq_some_iff.mp ex
    obtain ⟨kv2, e6, rfl⟩ := Option.map_eq_some_iff.mp ey
    rw [e5] at e6; cases e6
    obtain ⟨k, v⟩ := kv
    obtain ⟨k2, d2, h1, rfl, h3⟩ := rr.getV e5
    exact ⟨_, _, by rw [itemsL_get, h1]; rfl, rep_kD k2, h3⟩
  | _ => cases e3
theorem si_vals {m : M D} (h : SndD G X W e m) (hbase : attributeBase e "values" X.env (eval e X.env) = eval e X.env := by rfl) (hline : (apos.endLine == cpos.line) = true := by rfl) :
    SndI G X W tg (.Call (.Attribute e "values" apos) [] [] cpos) (valsM m) := by
  intro w st σ R r p
  refine RunI.of (pi_values pe_run hbase hline) (?_ : RunE X e σ w.H _)
  refine RunE.mk fun pins s I => thn (h w st σ _ r (post_it p) pins s I) fun v s1 ⟨x, H1, I1, rx, w1, d, ds, e1, ok1, q1, _, e3, q4⟩ => ?_
  refine ⟨x, H1, I1, rx, ?_⟩
  subst e1
  cases q1 with
  | dct q rr =>
    cases e3
    refine ⟨_, _, _, rfl, ok1.sub _ _ q, q4 _ (ri_fn (by rw [List.length_map]; exact rr.length) walk_values (fun w2 ok2 f => ok2.sub _ _ (f _ _ q)) fun i x w2 H' ok2 f y => ?_)⟩
    obtain ⟨rfl, k, e1⟩ := y
    obtain ⟨k2, d2, h1, rfl, h3⟩ := rr.getV e1
    exact ⟨w2, d2, rfl, Grw.refl _, ok2, by rw [List.getElem?_map, h1]; rfl, h3.mono f⟩
  | _ => cases e3
theorem si_enum {m : M D} (hg : Gl X "enumerate") (hm : X.mg "enumerate" = none) (h : SndD G X W e m) (hs : starEach [e] X.env = [(false, eval e X.env)] := by rfl) :
    SndI G X W (.Tuple elts kk tpos) (.Call (.Name "enumerate" p) [e] [] pos) (enumM m) := by
  intro w st σ R r p
  refine pi_enumS hg hm ?_ hs
  refine RunE.mk fun pins s I => thn (h w st σ _ r (post_it p) pins s I) fun v s1 ⟨x, H1, I1, rx, w1, d, ds, e1, ok1, q1, _, e3, q4⟩ => ?_
  refine ⟨x, H1, I1, rx, ?_⟩
  subst e1
  obtain ⟨xs, e5, rfl⟩ := Option.map_eq_some_iff.mp e3
  obtain ⟨k, vs, rfl, hS, rr⟩ := src_of q1 e5
  refine ⟨k, vs, rfl, hS _ ok1.sub, q4 _ (ri_pair (by rw [enumL_length]; exact rr.length) walk_enumS (fun w2 ok2 f => hS _ (f.trans ok2.sub)) fun i x y ex ey => ?_)⟩
  cases ex
  obtain ⟨d, e6, q⟩ := rr.getV ey
  exact ⟨_, _, by rw [enumL_get, e6]; simp, .int _, q⟩
theorem si_zip {m m' : M D} (hg : Gl X "zip") (hm : X.mg "zip" = none) (h : SndD G X W e m) (h' : SndD G X W e2 m') (ha : PA X [e, e2] (RunL X [e, e2]))
    (hs : starEach [e, e2] X.env = [(false, eval e X.env), (false, eval e2 X.env)] := by rfl) (hs2 : starEach [e2] X.env = [(false, eval e2 X.env)] := by rfl) :
    SndI G X W (.Tuple elts kk tpos) (.Call (.Name "zip" p) [e, e2] [] pos) (zipM m m') := by
  intro w st σ R r p
  refine pi_zipS hg hm ?_ ha hs hs2
  have older_I : Older (RI X.K G) := fun _ _ _ _ _ _ h => h
  refine Snd.bind (run1 := RunE X e) h older_I r p fun d u w1 st1 r1 s1 q1 p1 => ?_
  refine Snd.bind (run1 := RunE X e2) h' older_I r1 p1 fun d' u' w2 st2 r2 s2 q2 p2 => ?_
  have p3 : Post X.K G (RI X.K G) w2 σ W ((liftM ((srcD d).bind fun xs => (srcD d').map fun ys => zipL xs ys) : M (List D)) st2) R := p2
  cases e1 : srcD d with
  | none => rw [e1] at p3; exact p3.elim
  | some xs =>
    cases e2' : srcD d' with
    | none => rw [e1, e2'] at p3; exact p3.elim
    | some ys =>
      rw [e1, e2'] at p3
      have q1 : Rep X.K G w2.F u d := q1.mono s2.f
      obtain ⟨k, vs, rfl, hS, rr⟩ := src_of q1 e1
      obtain ⟨l, ws, rfl, hT, rs⟩ := src_of q2 e2'
      refine ⟨k, l, vs, ws, rfl, hS _ r2.ok.sub, hT _ r2.ok.sub, p3 _ w2 r2 (Step.refl _) (ri_pair rfl (walk_zipS (by rw [zipL_length, rr.length, rs.length])) (fun w2 ok2 f => ⟨hS _ (f.trans ok2.sub), hT _ (f.trans ok2.sub)⟩) fun i x y ex ey => ?_)⟩
      obtain ⟨dx, ex', qx⟩ := rr.getV ex
      obtain ⟨dy, ey', qy⟩ := rs.getV ey
      exact ⟨dx, dy, zipL_get _ _ _ _ _ ex' ey', qx, qy⟩
theorem rangeL_length {lo : Int} {n : Nat} : (rangeL lo n).length = n := by simp [rangeL]
theorem ri_range {K : PySem.W.Frag} {w0 w' : Wd} {lo : Int} {n : Nat} : RI K G w0 w' (Itr lo n) (rangeL lo n) :=
  ri_fn rangeL_length.symm (walk_range.mono (fun _ h => h) fun i H x H' hi _ y => (⟨hi, y⟩ : i < n ∧ _)) (fun _ _ _ => trivial) fun i x w2 H' ok2 f y => by
    obtain ⟨hi, rfl, rfl⟩ := y
    exact ⟨w2, _, rfl, Grw.refl _, ok2, by unfold rangeL; rw [List.getElem?_map, List.getElem?_range hi]; rfl, .int _⟩
theorem post_its {K : PySem.W.Frag} {f : List D → Option (List D)} {m : M (List D)} {R : It → Hp → Prop} {W : WX} (p : Post K G (RI K G) w σ W (bindM m (fun d => liftM (f d)) st) R) :
    Post K G (RL K G) w σ W (m st) (fun xs H => ∃ w1 ds ys, w1.H = H ∧ w1.Ok ∧ RepBL K G w1 xs ds ∧ f ds = some ys ∧ ∀ J, RI K G w w1 J ys → R J H) := by
  unfold bindM at p
  cases e : m st with
  | bad => rw [e] at p; exact p
  | exc x s => rw [e] at p; exact p
  | ok d s =>
    rw [e] at p
    have p : Post K G (RI K G) w σ W ((liftM (f d) : M (List D)) s) R := p
    intro u w' r' s' q
    cases eg : f d with
    | none => rw [eg] at p; exact p.elim
    | some ds => rw [eg] at p; exact ⟨w', d, ds, rfl, r'.ok, q, eg, fun J q => p J w' r' s' q⟩
theorem rng1_eq {K : PySem.W.Frag} {us : List V} {ds ys : List D} (r : RepBL K G w us ds) (h : rng1 ds = some ys) : ∃ j : Int, us = [.int j] ∧ -(2 ^ 62) ≤ j ∧ j < 2 ^ 62 ∧ ys = rangeL 0 j.toNat := by
  unfold rng1 at h
  split at h
  · rename_i j
    cases r with | cons r1 r => cases r; cases r1 with | fz r1 => cases r1; split at h <;> first | (cases h; rename_i q; exact ⟨j, rfl, q.1, q.2, rfl⟩) | cases h
  · cases h
theorem rng2_eq {K : PySem.W.Frag} {us : List V} {ds ys : List D} (r : RepBL K G w us ds) (h : rng2 ds = some ys) : ∃ i j : Int, us = [.int i, .int j] ∧ (-(2 ^ 62) ≤ i ∧ i < 2 ^ 62 ∧ -(2 ^ 62) ≤ j ∧ j < 2 ^ 62) ∧ ys = rangeL i (j - i).toNat := by
  unfold rng2 at h
  split at h
  · rename_i i j
    cases r with
    | cons r1 r =>
      cases r with
      | cons r2 r =>
        cases r; cases r1 with
        | fz r1 =>
          cases r1; cases r2 with
          | fz r2 => cases r2; split at h <;> first | (cases h; rename_i q; exact ⟨i, j, rfl, q, rfl⟩) | cases h
  · cases h
theorem si_range1 {a : Expr} {ml : M (List D)} (hg : Gl X "range") (hm : X.mg "range" = none) (hl : SndL G X W [a] ml) (ha : PA X [a] (RunL X [a]))
    (hs : starEach [a] X.env = [(false, eval a X.env)] := by rfl) : SndI G X W tg (.Call (.Name "range" p) [a] [] pos) (rng1M ml) := by
  intro w st σ R r p
  refine RunI.of (pi_range1 hg hm ha hs) (?_ : RunL X [a] σ w.H _)
  refine hl w st σ _ r ?_
  have p1 := post_its p
  refine Post.mono p1 fun us H q => ?_
  obtain ⟨w1, ds, ys, rfl, ok1, q1, e3, q4⟩ := q
  obtain ⟨j, rfl, h1, h2, rfl⟩ := rng1_eq q1 e3
  exact ⟨j, rfl, h1, h2, q4 _ ri_range⟩
theorem si_range2 {a : Expr} {b : Expr} {ml : M (List D)} (hg : Gl X "range") (hm : X.mg "range" = none) (hl : SndL G X W [a, b] ml) (ha : PA X [a, b] (RunL X [a, b]))
    (hs : starEach [a, b] X.env = [(false, eval a X.env), (false, eval b X.env)] := by rfl) (hs2 : starEach [b] X.env = [(false, eval b X.env)] := by rfl) :
    SndI G X W tg (.Call (.Name "range" p) [a, b] [] pos) (rng2M ml) := by
  intro w st σ R r p
  refine RunI.of (pi_range2 hg hm ha hs hs2) (?_ : RunL X [a, b] σ w.H _)
  refine hl w st σ _ r ?_
  have p1 := post_its p
  refine Post.mono p1 fun us H q => ?_
  obtain ⟨w1, ds, ys, rfl, ok1, q1, e3, q4⟩ := q
  obtain ⟨i, j, rfl, h1, rfl⟩ := rng2_eq q1 e3
  exact ⟨i, j, rfl, h1, q4 _ ri_range⟩
end
end Rz
namespace Rz
open PySem PySem.Spec PyProof.Rows L2
abbrev RF (K : PySem.W.Frag) (G : Nat → Addr) : Wd → Wd → List V → List D → Prop := fun _ w' u d => RepL K G w'.F u d
def SndF (G : Nat → Addr) (X : Cx) (W : WX) (es : List Expr) (m : M (List D)) : Prop := Snd X.K G (RunL X es) (RF X.K G) W m
section
variable {G : Nat → Addr} {X : Cx} {W : WX} {e : Expr} {es : List Expr} {pos : Pos} {w w' w0 : Wd} {st : Env} {σ : L2.St}
theorem older_F {K : PySem.W.Frag} : Older (RF K G) := fun _ _ _ _ _ _ h => h
theorem sf_nil : SndF G X W [] nilL := fun w st σ Q r p => p [] w r (Step.refl w) .nil
theorem sf_cons {m : M D} {ml : M (List D)} (h : SndD G X W e m) (hl : SndF G X W es ml) : SndF G X W (e :: es) (consL m ml) := by
  intro w st σ Q r p
  show RunE X e σ w.H _
  refine Snd.bind (run1 := RunE X e) h older_F r p fun d u w1 st1 r1 s1 q1 p1 => ?_
  refine Snd.bind (run1 := RunL X es) hl older_F r1 p1 fun ds us w2 st2 r2 s2 q2 p2 => ?_
  exact p2 (u :: us) w2 r2 (Step.refl w2) (.cons (q1.mono s2.f) q2)
theorem sl_of {ml : M (List D)} (h : SndF G X W es ml) : SndL G X W es ml := fun w st σ Q r p => by
  refine h w st σ Q r ?_
  cases q : ml st with
  | ok ds st' => rw [q] at p; exact fun u w' r' s' f => p u w' r' s' (RepBL.of f)
  | exc x st' => rw [q] at p; exact p
  | bad => rw [q] at p; exact p
theorem rel_frz {K : PySem.W.Frag} (r : Rel K G w st σ) {p : Addr} {o : HO} (hp : w.H p = none) (pl : Pl o := by first | assumption | exact ⟨fun _ z => (by cases z), fun _ _ z => (by unfold LamX.CodeO at z; cases z)⟩) : Rel K G (w.frz p o) st σ := r.grow (Wd.frz_ok r.ok hp pl) (Wd.frz_grw r.ok hp)
theorem snd_tup {x1 : Nat} {ml : M (List D)} (h : SndF G X W es ml) (ha : PA X es (RunL X es)) : SndD G X W (.Tuple es x1 pos) (tupM ml) := by
  intro w st σ Q r p
  refine RunE.of (pe_tup ha) ?_
  refine Snd.bind (run1 := RunL X es) h older_D r p fun ds us w1 st1 r1 s1 q1 p1 => ?_
  have p1 : Post X.K G (RD X.K G) w1 σ W ((liftM ((frzL ds).map .tup) : M D) st1) Q := p1
  unfold frzL at p1
  have hl := q1.length
  by_cases hz : ds.length ≤ 16777216
  · rw [if_pos hz] at p1
    refine ⟨by rw [hl, sizeLine_eq]; exact hz, fun q hq => ?_⟩
    exact p1 (.ref q) (w1.frz q (.tup us)) (rel_frz r1 hq) ((Wd.frz_grw r1.ok hq).step r1.ok) (.tup (.inl (.inl upd_same)) (q1.mono (Wd.frz_grw (o := .tup us) r1.ok hq).f))
  · rw [if_neg hz] at p1; exact p1.elim
theorem snd_lst {ml : M (List D)} (h : SndF G X W es ml) (ha : PA X es (RunL X es)) : SndV G X W (.List es pos) (lstM ml) := by
  intro w st σ Q r p
  refine RunE.of (pe_lst ha) ?_
  refine Snd.bind (run1 := RunL X es) h older_V r p fun ds us w1 st1 r1 s1 q1 p1 => ?_
  have p1 : Post X.K G (RV X.K G) w1 σ W ((liftM ((frzL ds).map .ml) : M Sl) st1) Q := p1
  unfold frzL at p1
  have hl := q1.length
  by_cases hz : ds.length ≤ 16777216
  · rw [if_pos hz] at p1
    refine ⟨by rw [hl, sizeLine_eq]; exact hz, fun q hq => ?_⟩
    have g := Wd.new_grw (o := .lst us) hq
    exact p1 (.ref q) (w1.new q (.lst us)) (r1.grow (Wd.new_ok r1.ok hq) g) (g.step r1.ok) ⟨q, us, rfl, hq, r1.ok.k_oth hq, upd_same, q1⟩
  · rw [if_neg hz] at p1; exact p1.elim
theorem snd_d0 : SndV G X W (.Dict [] [] pos) (pureM (.md [])) := by
  intro w st σ Q r p
  refine RunE.of pe_dnewK fun q hq => ?_
  have g := Wd.new_grw (o := .dK []) hq
  exact p (.ref q) (w.new q (.dK [])) (r.grow (Wd.new_ok r.ok hq) g) (g.step r.ok) ⟨q, [], rfl, hq, r.ok.k_oth hq, upd_same, .nil⟩
def RunP (X : Cx) : List (Expr × Expr) → L2.St → Hp → (List (V × V) → Hp → Prop) → Prop
  | [], _, H, Q => Q [] H
  | kv :: r, σ, H, Q => RunE X kv.1 σ H fun x H1 => RunE X kv.2 σ H1 fun y H2 => RunP X r σ H2 fun ps H3 => Q ((x, y) :: ps) H3
def pTrs (X : Cx) (kvs : List (Expr × Expr)) : List (TE × TE) := kvs.map fun kv => (RunE X kv.1, RunE X kv.2)
theorem tPairs_run {X : Cx} : ∀ (kvs : List (Expr × Expr)) (σ : L2.St) (H : Hp) (Q : List (V × V) → Hp → Prop), RunP X kvs σ H Q → tPairs (pTrs X kvs) σ H Q
  | [], _, _, _, h => h
  | kv :: r, σ, H, Q, h => by
    show RunE X kv.1 σ H _
    refine RunE.mk fun pins s I => thn (RunE.run (e := kv.1) h pins s I) fun v s1 ⟨x, H1, I1, r1, q1⟩ => ⟨x, H1, I1, r1, ?_⟩
    refine RunE.mk fun pins s I => thn (q1 pins s I) fun v s1 ⟨x, H1, I1, r1, q1⟩ => ⟨x, H1, I1, r1, ?_⟩
    exact tPairs_run r σ H1 _ q1
def PrsR (K : PySem.W.Frag) (G : Nat → Addr) (F : Hp) : List (V × V) → List (DK × D) → Prop
  | [], [] => True
  | p :: ps, kd :: ks => p.1 = kV (kyV kd.1) ∧ Rep K G F p.2 kd.2 ∧ PrsR K G F ps ks
  | _, _ => False
theorem PrsR.mono {K : PySem.W.Frag} {G : Nat → Addr} {F F' : Hp} (h : Same F F') : ∀ {ps : List (V × V)} {ks : List (DK × D)}, PrsR K G F ps ks → PrsR K G F' ps ks
  | [], [], _ => trivial
  | _ :: _, _ :: _, q => ⟨q.1, q.2.1.mono h, PrsR.mono h q.2.2⟩
  | [], _ :: _, q => q.elim
  | _ :: _, [], q => q.elim
theorem PrsR.kvs {K : PySem.W.Frag} {G : Nat → Addr} {F : Hp} : ∀ {ps : List (V × V)} {ks : List (DK × D)}, PrsR K G F ps ks → ∃ kvs : List (Key × V), ps = kvs.map (fun kv => (kV kv.1, kv.2)) ∧ RepK K G F kvs ks
  | [], [], _ => ⟨[], rfl, .nil⟩
  | p :: _, kd :: _, q => by
    obtain ⟨kvs, e, r⟩ := PrsR.kvs q.2.2
    obtain ⟨k, d⟩ := kd
    obtain ⟨x, y⟩ := p
    refine ⟨(kyV k, y) :: kvs, ?_, .cons q.2.1 r⟩
    rw [e, List.map_cons]
    have : x = kV (kyV k) := q.1
    rw [this]
  | [], _ :: _, q => q.elim
  | _ :: _, [], q => q.elim
def SndP (G : Nat → Addr) (X : Cx) (W : WX) (kvs : List (Expr × Expr)) (m : M (List (DK × D))) : Prop := Snd X.K G (RunP X kvs) (fun _ w' u d => PrsR X.K G w'.F u d) W m
def consP (mk mv : M D) (ml : M (List (DK × D))) : M (List (DK × D)) := bindM mk fun k => bindM mv fun v => bindM ml fun ks => match keyD k with
  | some k => pureM ((k, v) :: ks)
  | none => badM
theorem sp_nil : SndP G X W [] (pureM []) := fun w st σ Q r p => p [] w r (Step.refl w) trivial
theorem kV_of {K : PySem.W.Frag} {F : Hp} {x : V} {d : D} {k : DK} (r : Rep K G F x d) (h : keyD d = some k) : x = kV (kyV k) := by
  cases r with
  | int i => cases h; rfl
  | str s => cases h; rfl
  | _ => cases h
theorem sp_cons {k v : Expr} {kvs : List (Expr × Expr)} {mk mv : M D} {ml : M (List (DK × D))} (hk : SndD G X W k mk) (hv : SndD G X W v mv) (hl : SndP G X W kvs ml) : SndP G X W ((k, v) :: kvs) (consP mk mv ml) := by
  intro w st σ Q r p
  have older_P : Older (fun (_ : Wd) (w' : Wd) (u : List (V × V)) d => PrsR X.K G w'.F u d) := fun _ _ _ _ _ _ h => h
  show RunE X k σ w.H _
  refine Snd.bind (run1 := RunE X k) hk older_P r p fun d u w1 st1 r1 s1 q1 p1 => ?_
  refine Snd.bind (run1 := RunE X v) hv older_P r1 p1 fun d2 u2 w2 st2 r2 s2 q2 p2 => ?_
  refine Snd.bind (run1 := RunP X kvs) hl older_P r2 p2 fun ds us w3 st3 r3 s3 q3 p3 => ?_
  cases e : keyD d with
  | none => rw [e] at p3; exact p3.elim
  | some kk =>
    rw [e] at p3
    exact p3 ((u, u2) :: us) w3 r3 (Step.refl w3) ⟨kV_of q1 e, q2.mono s3.f, q3⟩
def mergeD (ks more : List (DK × D)) : List (DK × D) := more.foldl (fun acc kv => putD acc kv.1 kv.2) ks
theorem RepK.merge {K : PySem.W.Frag} {F : Hp} {more : List (DK × D)} {moreV : List (Key × V)} {ks : List (DK × D)} {kvs : List (Key × V)} (r : RepK K G F moreV more) (q : RepK K G F kvs ks) : RepK K G F (mergeK kvs moreV) (mergeD ks more) := by
  induction more generalizing moreV ks kvs with
  | nil => cases r; exact q
  | cons a more ih =>
    cases r with
    | @cons k v vs d ds r1 t =>
      have h := ih t (q.put (k := k) r1)
      exact h
def dispM (ml : M (List (DK × D))) : M Sl := bindM ml fun ks => if ks.length ≤ 15 then pureM (.md (mergeD [] ks)) else badM
theorem snd_disp {keys : List (Option Expr)} {values : List Expr} {kvs : List (Expr × Expr)} {ml : M (List (DK × D))} (h : SndP G X W kvs ml) (hp : PPs X pos keys values (pTrs X kvs)) (hall : keys.all (·.isSome) = true) (hl : keys.length = values.length) (h0 : keys ≠ [])
    (h15 : keys.length ≤ 15) : SndV G X W (.Dict keys values pos) (dispM ml) := by
  intro w st σ Q r p
  refine RunE.of (pe_disp hp hall hl h0 h15) fun q hq => tPairs_run kvs σ _ _ ?_
  have g := Wd.new_grw (o := .dK []) hq
  have r0 : Rel X.K G (w.new q (.dK [])) st σ := r.grow (Wd.new_ok r.ok hq) g
  refine h (w.new q (.dK [])) st σ _ r0 ?_
  have p0 : Post X.K G (RV X.K G) w σ W ((ml st).bind fun ks => if ks.length ≤ 15 then pureM (.md (mergeD [] ks)) else badM) Q := p
  cases e : ml st with
  | bad => rw [e] at p0; exact p0
  | exc x st1 =>
    rw [e] at p0
    exact fun c d w1 r1 s1 x1 => p0 c d w1 r1 ((g.step r.ok).trans r0.ok r1.ok s1) x1
  | ok ks st1 =>
    rw [e] at p0
    intro us w1 r1 s1 q1
    have p0 : Post X.K G (RV X.K G) w σ W ((if ks.length ≤ 15 then pureM (.md (mergeD [] ks)) else badM : M Sl) st1) Q := p0
    by_cases hz : ks.length ≤ 15
    · rw [if_pos hz] at p0
      obtain ⟨kv, e1, rk⟩ := q1.kvs
      obtain ⟨o1, o2⟩ := s1.o q _ upd_same (r.ok.k_oth hq)
      refine ⟨o1, kv, e1, by rw [rk.length]; exact hz, ?_⟩
      have nf : w1.k q ≠ .frz := by rw [o2]; intro z; cases z
      have s01 := (g.step r.ok).trans r0.ok r1.ok s1
      have r2 : Rel X.K G (w1.put q (.dK (mergeK [] kv))) st1 σ := by
        refine ⟨Wd.put_ok r1.ok nf, r1.len, fun j s e => ?_, r1.tk⟩
        obtain ⟨x, hx, q'⟩ := r1.at_ j s e
        refine ⟨x, hx, ?_⟩
        cases s with
        | un => trivial
        | fz d => exact q'
        | ml xs =>
          obtain ⟨b, vs', e1, k, hh, rr⟩ := q'
          have n : b ≠ q := by rintro rfl; rw [o2] at k; cases k
          exact ⟨b, vs', e1, k, by unfold Wd.put; dsimp only; rw [upd_ne n]; exact hh, rr⟩
        | md xs =>
          obtain ⟨b, vs', e1, k, hh, rr⟩ := q'
          have n : b ≠ q := by rintro rfl; rw [o2] at k; cases k
          exact ⟨b, vs', e1, k, by unfold Wd.put; dsimp only; rw [upd_ne n]; exact hh, rr⟩
        | mi c xs =>
          obtain ⟨b, dx, vs', e1, k, hh, rr⟩ := q'
          have n : b ≠ q := by rintro rfl; rw [o2] at k; cases k
          exact ⟨b, dx, vs', e1, k, by unfold Wd.put; dsimp only; rw [upd_ne n]; exact hh, rr⟩
      refine p0 (.ref q) (w1.put q (.dK (mergeK [] kv))) r2 ?_ ⟨q, mergeK [] kv, rfl, hq, o2, upd_same, rk.merge .nil⟩
      exact ⟨s01.f, fun b o e k => by
        obtain ⟨e1, k1⟩ := s01.o b o e k
        have n : b ≠ q := by rintro rfl; rw [hq] at e; cases e
        exact ⟨by unfold Wd.put; dsimp only; rw [upd_ne n]; exact e1, k1⟩, fun b e => by
        unfold Wd.put at e; dsimp only at e
        by_cases n : b = q
        · subst n; rw [upd_same] at e; cases e
        · rw [upd_ne n] at e; exact s01.d b e, s01.t, s01.w⟩
    · rw [if_neg hz] at p0; exact p0.elim
def flatD : D → Bool
  | .non => true
  | .bl _ => true
  | .int _ => true
  | .str _ => true
  | _ => false
def eqF : D → D → Bool
  | .non, .non => true
  | .bl a, .bl b => a == b
  | .bl a, .int b => (if a then 1 else 0) == b
  | .int a, .bl b => a == (if b then 1 else 0)
  | .int a, .int b => a == b
  | .str a, .str b => decide (a = b)
  | _, _ => false
def inL (x : D) (xs : List D) : Option Bool :=
  if flatD x && xs.all flatD then some (xs.any fun y => eqF y x)
  else if x.okEq && (D.lst xs).okEq then some (xs.any fun y => PyData.eqv y.py x.py) else none
def inT (x : D) (xs : List D) : Option Bool := if flatD x && xs.all flatD then some (xs.any fun y => eqF y x) else none
def inV (x y : D) : Option Bool := match y with
  | .dct ks => (keyD x).map fun k => (getK ks k).isSome
  | .lst xs => inL x xs
  | .tup xs => inT x xs
  | .str s => match x with
    | .str [c] => some (decide (c ∈ s))
    | _ => none
  | _ => none
def dIn (x y : D) : Option D := (inV x y).map .bl
def dNotIn (x y : D) : Option D := (inV x y).map fun b => .bl (!b)
theorem rep_flat {K : PySem.W.Frag} {F : Hp} {v : V} {d : D} (r : Rep K G F v d) (h : flatD d = true) : flatV v = true := by
  cases r <;> first | rfl | cases h
theorem repL_flat {K : PySem.W.Frag} {F : Hp} {vs : List V} {ds : List D} (r : RepL K G F vs ds) (h : ds.all flatD = true) : vs.all flatV = true := by
  induction ds generalizing vs with
  | nil => cases r; rfl
  | cons a ds ih =>
    cases r with
    | cons r t =>
      rw [List.all_cons, Bool.and_eq_true] at h ⊢
      exact ⟨rep_flat r h.1, ih t h.2⟩
theorem eqF_rep {K : PySem.W.Frag} {F : Hp} {u v : V} {a b : D} (r : Rep K G F u a) (r' : Rep K G F v b) (h : flatD a = true) (h' : flatD b = true) : L2.eqV u v = eqF a b := by
  cases r with
  | str s =>
    cases r' with
    | str t =>
      show ((⟨s.toArray⟩ : Str) == ⟨t.toArray⟩) = decide (s = t)
      rw [Bool.beq_eq_decide_eq]
      exact decide_eq_decide.mpr str_inj
    | non => rfl
    | bl => rfl
    | int => rfl
    | _ => cases h'
  | non => cases r' <;> first | rfl | cases h'
  | bl => cases r' <;> first | rfl | cases h'
  | int => cases r' <;> first | rfl | cases h'
  | _ => cases h
theorem inV_rep {K : PySem.W.Frag} {F : Hp} {v : V} {d : D} {vs : List V} {ds : List D} (r : Rep K G F v d) (rs : RepL K G F vs ds) (h : flatD d = true) (hs : ds.all flatD = true) : L2.inV v vs = ds.any fun y => eqF y d := by
  unfold L2.inV
  induction ds generalizing vs with
  | nil => cases rs; rfl
  | cons a ds ih =>
    cases rs with
    | cons q t =>
      rw [List.all_cons, Bool.and_eq_true] at hs
      rw [List.any_cons, List.any_cons, ih t hs.2, eqF_rep q r hs.1 h]
theorem repB_flat {K : PySem.W.Frag} {w : Wd} {v : V} {d : D} (r : RepB K G w v d) (h : flatD d = true) : Rep K G w.F v d := by
  cases r with
  | fz r => exact r
  | _ => cases h
theorem pyL_any (f : PyData → Bool) : ∀ xs : List D, (pyL xs).any f = xs.any fun y => f y.py
  | [] => rfl
  | x :: xs => by
    show (x.py :: pyL xs).any f = _
    rw [List.any_cons, List.any_cons, pyL_any f xs]
theorem getK_some {K : PySem.W.Frag} {F : Hp} {vs : List (Key × V)} {ks : List (DK × D)} (r : RepK K G F vs ks) (k : DK) : (valV vs (kyV k)).isSome = (getK ks k).isSome := by
  rcases r.get k with ⟨h1, h2⟩ | ⟨v, d, h1, h2, _⟩ <;> rw [h1, h2] <;> rfl
theorem key_flat {d : D} {k : DK} (h : keyD d = some k) : flatD d = true := by
  cases d <;> first | rfl | cases h
theorem inT_cases {x : D} {xs : List D} {c : Bool} (h : inT x xs = some c) : flatD x = true ∧ xs.all flatD = true ∧ c = xs.any fun y => eqF y x := by
  unfold inT at h
  cases e : (flatD x && xs.all flatD) with
  | true =>
    rw [e] at h
    obtain ⟨e1, e2⟩ := Bool.and_eq_true_iff.mp e
    exact ⟨e1, e2, (Option.some.inj h).symm⟩
  | false => rw [e] at h; cases h
theorem inL_cases {x : D} {xs : List D} {c : Bool} (h : inL x xs = some c) : (flatD x = true ∧ xs.all flatD = true ∧ c = xs.any fun y => eqF y x) ∨ (x.okEq = true ∧ (D.lst xs).okEq = true ∧ c = xs.any fun y => PyData.eqv y.py x.py) := by
  unfold inL at h
  cases e : (flatD x && xs.all flatD) with
  | true =>
    rw [e] at h
    obtain ⟨e1, e2⟩ := Bool.and_eq_true_iff.mp e
    exact .inl ⟨e1, e2, (Option.some.inj h).symm⟩
  | false =>
    rw [e] at h
    cases e' : (x.okEq && (D.lst xs).okEq) with
    | true =>
      rw [e'] at h
      obtain ⟨e1, e2⟩ := Bool.and_eq_true_iff.mp e'
      exact .inr ⟨e1, e2, (Option.some.inj h).symm⟩
    | false => rw [e'] at h; cases h
theorem opS_in (hu : X.A.units + 65 < cLine) : OpS X G (compareOp .In) dIn := by
  intro pins s σ H x y v u Q I rx ry ⟨w, a, b, z, eH, ok, ra, rb, eg, gv⟩
  subst eH
  unfold dIn at eg
  obtain ⟨c, ec, rfl⟩ := Option.map_eq_some_iff.mp eg
  have fin : Q (.bl c) w.H := giv_here ok gv (.bl _)
  cases b with
  | dct ks =>
    obtain ⟨k, ek, rfl⟩ := Option.map_eq_some_iff.mp (show (keyD a).map (fun k => (getK ks k).isSome) = some c from ec)
    obtain ⟨p, vs, rfl, hd, rk⟩ := repB_dct ok rb
    have ex : x = kV (kyV k) := kV_of (repB_flat ra (key_flat ek)) ek
    cases ry
    refine d_in (by omega) I (.inl ⟨vs, kyV k, hd, ex, rfl⟩) rx fun s' I' => ⟨.bl _, w.H, I', rfl, ?_⟩
    rw [getK_some rk]; exact fin
  | tup xs =>
    obtain ⟨h1, h2, rfl⟩ := inT_cases ec
    obtain ⟨p, vs, rfl, q, rr⟩ := repB_tup rb
    refine op_in_seq pins s σ _ _ _ v u Q I rx ry ⟨p, vs, rfl, .inr (SqT.same ok.sub q), rep_flat (repB_flat ra h1) h1, repL_flat rr h2, ?_⟩
    rw [inV_rep (repB_flat ra h1) rr h1 h2]; exact fin
  | lst xs =>
    rcases inL_cases ec with ⟨h1, h2, rfl⟩ | ⟨h1, h2, rfl⟩
    · obtain ⟨p, vs, rfl, q, rr⟩ := repB_lst ok rb
      refine op_in_seq pins s σ _ _ _ v u Q I rx ry ⟨p, vs, rfl, .inl (.inl (.inl q)), rep_flat (repB_flat ra h1) h1, repL_flat rr h2, ?_⟩
      rw [inV_rep (repB_flat ra h1) rr h1 h2]; exact fin
    · refine op_inD hu pins s σ _ _ _ v u Q I rx ry ⟨_, pyL xs, ra.dp ok (okEq_plain h1), rb.dp ok (okEq_plain h2), okEq_shaped h1, okEq_shaped h2, ?_⟩
      rw [pyL_any]; exact fin
  | str t =>
    cases a with
    | str i =>
      match i, ra, ec with
      | [c0], ra, ec =>
        cases ec
        rw [repB_str ra] at rx; rw [repB_str rb] at ry
        exact op_in_sign pins s σ _ _ _ v u Q I rx ry ⟨c0, _, rfl, rfl, by simpa using fin⟩
    | _ => cases ec
  | _ => cases ec
theorem opS_notIn (hu : X.A.units + 65 < cLine) : OpS X G (compareOp .NotIn) dNotIn := by
  intro pins s σ H x y v u Q I rx ry ⟨w, a, b, z, eH, ok, ra, rb, eg, gv⟩
  subst eH
  unfold dNotIn at eg
  obtain ⟨c, ec, rfl⟩ := Option.map_eq_some_iff.mp eg
  have fin : Q (.bl (!c)) w.H := giv_here ok gv (.bl _)
  cases b with
  | dct ks =>
    obtain ⟨k, ek, rfl⟩ := Option.map_eq_some_iff.mp (show (keyD a).map (fun k => (getK ks k).isSome) = some c from ec)
    obtain ⟨p, vs, rfl, hd, rk⟩ := repB_dct ok rb
    have ex : x = kV (kyV k) := kV_of (repB_flat ra (key_flat ek)) ek
    cases ry
    refine d_notIn (by omega) I (.inl ⟨vs, kyV k, hd, ex, rfl⟩) rx fun s' I' => ⟨.bl _, w.H, I', rfl, ?_⟩
    rw [getK_some rk]; exact fin
  | tup xs =>
    obtain ⟨h1, h2, rfl⟩ := inT_cases ec
    obtain ⟨p, vs, rfl, q, rr⟩ := repB_tup rb
    refine op_notIn_seq pins s σ _ _ _ v u Q I rx ry ⟨p, vs, rfl, .inr (SqT.same ok.sub q), rep_flat (repB_flat ra h1) h1, repL_flat rr h2, ?_⟩
    rw [inV_rep (repB_flat ra h1) rr h1 h2]; exact fin
  | lst xs =>
    rcases inL_cases ec with ⟨h1, h2, rfl⟩ | ⟨h1, h2, rfl⟩
    · obtain ⟨p, vs, rfl, q, rr⟩ := repB_lst ok rb
      refine op_notIn_seq pins s σ _ _ _ v u Q I rx ry ⟨p, vs, rfl, .inl (.inl (.inl q)), rep_flat (repB_flat ra h1) h1, repL_flat rr h2, ?_⟩
      rw [inV_rep (repB_flat ra h1) rr h1 h2]; exact fin
    · refine op_notInD hu pins s σ _ _ _ v u Q I rx ry ⟨_, pyL xs, ra.dp ok (okEq_plain h1), rb.dp ok (okEq_plain h2), okEq_shaped h1, okEq_shaped h2, ?_⟩
      rw [pyL_any]; exact fin
  | str t =>
    cases a with
    | str i =>
      match i, ra, ec with
      | [c0], ra, ec =>
        cases ec
        rw [repB_str ra] at rx; rw [repB_str rb] at ry
        exact op_notIn_sign pins s σ _ _ _ v u Q I rx ry ⟨c0, _, rfl, rfl, by simpa using fin⟩
    | _ => cases ec
  | _ => cases ec
end
end Rz
namespace Rz
open PySem PySem.Spec PyProof.Rows L2
def isNonD : D → Bool
  | .non => true
  | _ => false
def dIs : D → D → Option D
  | a, .non => some (.bl (isNonD a))
  | _, _ => none
def dIsNot : D → D → Option D
  | a, .non => some (.bl (!isNonD a))
  | _, _ => none
section
variable {G : Nat → Addr} {X : Cx} {W : WX} {a b c e : Expr} {es : List Expr} {pos p : Pos} {w w' w0 : Wd} {st : Env} {σ : L2.St}
theorem repB_non {v : V} {d : D} (h : RepB X.K G w v d) : decide (v = V.non) = isNonD d := by
  cases h with
  | fz h => cases h <;> simp [isNonD]
  | _ => simp [isNonD]
theorem opS_is : OpS X G (compareOp .Is) dIs := by
  intro pins s σ H x y v u Q I rx ry ⟨w, a, b, z, eH, ok, ra, rb, eg, gv⟩
  subst eH
  cases b with
  | non =>
    cases eg
    have ey : y = .non := by cases rb with | fz h => cases h; rfl
    subst ey
    refine op_isN pins s σ _ _ _ v u Q I rx ry ⟨rfl, ?_⟩
    rw [repB_non ra]
    exact giv_here ok gv (.bl _)
  | _ => cases a <;> cases eg
theorem opS_isNot : OpS X G (compareOp .IsNot) dIsNot := by
  intro pins s σ H x y v u Q I rx ry ⟨w, a, b, z, eH, ok, ra, rb, eg, gv⟩
  subst eH
  cases b with
  | non =>
    cases eg
    have ey : y = .non := by cases rb with | fz h => cases h; rfl
    subst ey
    refine op_notN pins s σ _ _ _ v u Q I rx ry ⟨rfl, ?_⟩
    rw [repB_non ra]
    exact giv_here ok gv (.bl _)
  | _ => cases a <;> cases eg
def chainM (g g' : D → D → Option D) (ml : M (List D)) (mc : M D) : M D := bindM ml fun ds => match ds with
  | [x, y] => (match g x y with
    | some (.bl true) => bindM mc fun z => liftM (g' y z)
    | some (.bl false) => pureM (.bl false)
    | _ => badM)
  | _ => badM
theorem snd_chain {op op' : CmpOp} {g g' : D → D → Option D} {ml : M (List D)} {mc : M D} (ho : OpS X G (compareOp op) g) (ho' : OpS X G (compareOp op') g') (hl : SndF G X W [a, b] ml) (hc : SndD G X W c mc)
    (hm : lastMarks [op, op'] [b, c] = false := by with_unfolding_all rfl) : SndD G X W (.Compare a [op, op'] [b, c] pos) (chainM g g' ml mc) := by
  intro w st σ Q r p
  refine RunE.of (pe_chain ho ho' pe_run pe_run pe_run hm) ?_
  have h := Snd.bind (run1 := RunL X [a, b]) (Q1 := fun vs H2 => match vs with | [x, y] => rG X.K G g x y H2 fun z H3 => ∃ k, z = .bl k ∧ (if k = true then RunE X c σ H3 fun w' H4 => rG X.K G g' y w' H4 Q else Q (.bl false) H3) | _ => False) hl older_D r p fun ds us w1 st1 r1 s1 q1 p1 => ?_
  · exact h
  · cases q1 with
    | nil => exact p1.elim
    | @cons x xs d ds b1 q1 =>
      cases q1 with
      | nil => exact p1.elim
      | @cons y ys d' ds' b2 q1 =>
        cases q1 with
        | nil =>
          have p2 : Post X.K G (RD X.K G) w1 σ W ((match g d d' with
            | some (.bl true) => bindM mc fun z => liftM (g' d' z)
            | some (.bl false) => pureM (.bl false)
            | _ => badM : M D) st1) Q := p1
          cases eg : g d d' with
          | none => rw [eg] at p2; exact p2.elim
          | some z =>
            rw [eg] at p2
            cases z with
            | bl k =>
              refine ⟨w1, d, d', .bl k, rfl, r1.ok, .fz b1, .fz b2, eg, fun u w2 g2 ok2 f2 => ?_⟩
              cases f2
              refine ⟨k, rfl, ?_⟩
              have r2 := r1.grow ok2 g2
              have s2 := g2.step r1.ok
              cases k with
              | false => exact iteF (p2 _ w2 r2 s2 (.bl false))
              | true =>
                refine iteT ?_
                refine Snd.bind (run1 := RunE X c) hc older_D r2 (Post.shift ok2 s2 older_D p2) fun z u w3 st3 r3 s3 q3 p3 => ?_
                have p4 : Post X.K G (RD X.K G) w3 σ W ((liftM (g' d' z) : M D) st3) Q := p3
                cases eg' : g' d' z with
                | none => rw [eg'] at p4; exact p4.elim
                | some z2 =>
                  rw [eg'] at p4
                  exact ⟨w3, d', z, z2, rfl, r3.ok, .fz ((b2.mono g2.f).mono s3.f), .fz q3, eg', giv_of r3 p4⟩
            | _ => exact p2.elim
        | cons _ _ => exact p1.elim
theorem snd_tst {m : M D} (h : SndD G X W e m) (he : ∀ whole, isTrue e X.env whole = (do let v ← whole; standAt e.pos; holding [v] (truthy v)) := by intro _; rfl) : SndT G X W e (truM m) := snd_tru h he
def dIx : D → D → Option D
  | .lst xs, .int i => atI xs i
  | .tup xs, .int i => atI xs i
  | .scr xs, .int i => (atI xs i).map .int
  | .str s, .int i => if s.length ≤ 16777216 then (atI s i).map fun c => .str [c] else none
  | .dct ks, k => (keyD k).bind (getK ks)
  | _, _ => none
theorem atI_rep {K : PySem.W.Frag} {F : Hp} {vs : List V} {ds : List D} {i : Int} {d : D} (r : RepL K G F vs ds) (h : atI ds i = some d) : ∃ v, atI vs i = some v ∧ Rep K G F v d := by
  unfold atI at h ⊢
  rw [r.length]
  obtain ⟨j, ej, e⟩ := Option.bind_eq_some_iff.mp h
  obtain ⟨v, h1, h2⟩ := r.get e
  exact ⟨v, by rw [ej]; exact h1, h2⟩
theorem atI_map {α β : Type} (f : α → β) (xs : List α) (i : Int) : atI (xs.map f) i = (atI xs i).map f := by
  unfold atI
  rw [List.length_map]
  cases ixN xs.length i with
  | none => rfl
  | some j => simp
theorem ixS (hu : X.A.units + 1 < cLine) : IxR X (rG X.K G dIx) := by
  intro value slice pins s σ H x y v u Q I rx ry ⟨w, a, b, z, eH, ok, ra, rb, eg, gv⟩ hs
  subst eH
  cases a with
  | lst xs =>
    cases b with
    | int i =>
      obtain ⟨p, vs, rfl, q, rr⟩ := repB_lst ok ra
      rw [repB_int rb] at ry
      obtain ⟨v0, h1, h2⟩ := atI_rep rr eg
      exact ix_list value slice pins s σ _ _ _ v u Q I rx ry ⟨p, vs, i, v0, rfl, rfl, .inl (.inl q), h1, giv_here ok gv h2⟩ hs
    | _ => cases eg
  | tup xs =>
    cases b with
    | int i =>
      obtain ⟨p, vs, rfl, q, rr⟩ := repB_tup ra
      rw [repB_int rb] at ry
      obtain ⟨v0, h1, h2⟩ := atI_rep rr eg
      exact ix_tup value slice pins s σ _ _ _ v u Q I rx ry ⟨p, vs, i, v0, rfl, rfl, SqT.same ok.sub q, h1, giv_here ok gv h2⟩ hs
    | _ => cases eg
  | scr xs =>
    cases b with
    | int i =>
      obtain ⟨p, rfl, q⟩ := repB_scr ok ra
      rw [repB_int rb] at ry
      obtain ⟨n, h1, rfl⟩ := Option.map_eq_some_iff.mp eg
      exact ix_list value slice pins s σ _ _ _ v u Q I rx ry ⟨p, _, i, .int n, rfl, rfl, q, by rw [atI_map, h1]; rfl, giv_here ok gv (.int n)⟩ hs
    | _ => cases eg
  | str t =>
    cases b with
    | int i =>
      rw [repB_str ra] at rx; rw [repB_int rb] at ry
      have eg' : (if t.length ≤ 16777216 then (atI t i).map (fun c => D.str [c]) else none) = some z := eg
      by_cases hl : t.length ≤ 16777216
      · rw [if_pos hl] at eg'
        obtain ⟨c, h1, rfl⟩ := Option.map_eq_some_iff.mp eg'
        exact ix_str value slice pins s σ _ _ _ v u Q I rx ry ⟨_, i, c, rfl, rfl, by rw [str_len, sizeLine_eq]; exact hl, by simpa using h1, giv_here ok gv (.str [c])⟩ hs
      · rw [if_neg hl] at eg'; cases eg'
    | _ => cases eg
  | dct ks =>
    obtain ⟨k, ek, e1⟩ := Option.bind_eq_some_iff.mp (show (keyD b).bind (getK ks) = some z from eg)
    obtain ⟨p, vs, rfl, hd, rk⟩ := repB_dct ok ra
    have ey : y = kV (kyV k) := kV_of (repB_flat rb (key_flat ek)) ek
    rcases rk.get k with ⟨h1, _⟩ | ⟨v0, d0, h1, h2, h3⟩
    · rw [h1] at e1; cases e1
    · rw [h1] at e1; cases e1
      cases rx
      have g : DGet w.H p y (some v0) := .inl ⟨vs, kyV k, hd, ey, h2.symm⟩
      exact tail_any (dict_typeIs I g) PySem.F.slot_dict_getitem.lookup (d_getItem hu I g ry fun w' s3 I3 rw' => ⟨v0, w.H, I3, rw', giv_here ok gv h3⟩) hs
  | _ => cases b <;> cases eg
theorem snd_ix {ml : M (List D)} (hu : X.A.units + 1 < cLine) (hl : SndL G X W [a, b] ml) (hs : PlainIx b) : SndD G X W (.Subscript a b pos) (op2M dIx ml) := by
  intro w st σ Q r p
  refine RunE.of (pe_ix (ixS (G := G) hu) pe_run pe_run hs) ?_
  have h := Snd.bind (run1 := RunL X [a, b]) (Q1 := fun vs H => match vs with | [x, y] => rG X.K G dIx x y H Q | _ => False) hl older_D r p fun ds us w1 st1 r1 s1 q1 p1 => ?_
  · exact h
  · cases q1 with
    | nil => exact p1.elim
    | @cons x xs d ds b1 q1 =>
      cases q1 with
      | nil => exact p1.elim
      | @cons y ys d' ds' b2 q1 =>
        cases q1 with
        | nil =>
          have p2 : Post X.K G (RD X.K G) w1 σ W ((liftM (dIx d d') : M D) st1) Q := p1
          cases eg : dIx d d' with
          | none => rw [eg] at p2; exact p2.elim
          | some z =>
            rw [eg] at p2
            exact ⟨w1, d, d', z, rfl, r1.ok, b1, b2, eg, giv_of r1 p2⟩
        | cons _ _ => exact p1.elim
inductive Part where
  | non | ex (e : Expr)
def Part.o : Part → Option Expr
  | .non => none
  | .ex e => some e
def RunO (X : Cx) (o : Option Expr) (σ : L2.St) (H : Hp) (Q : Option Int → Hp → Prop) : Prop := ∀ pins s, Inv X pins σ H s → wpAny (model X.prog X.w) X.A (evalPart o X.env) (fun v s' => ∃ i H', Inv X pins σ H' s' ∧ IsPart v i ∧ Q i H') X.xe s
theorem po_run {o : Option Expr} : PO X o (RunO X o) := ⟨fun pins s σ H Q I h => h pins s I⟩
def SndO (G : Nat → Addr) (X : Cx) (W : WX) (o : Option Expr) (m : M (Option Int)) : Prop := Snd X.K G (RunO X o) (fun _ _ u d => u = d) W m
def somO (m : M D) : M (Option Int) := bindM m fun d => match d with
  | .int i => pureM (some i)
  | _ => badM
theorem so_none : SndO G X W none (pureM none) := fun w st σ Q r p pins s I => po_none.run pins s σ w.H Q I (p none w r (Step.refl _) rfl)
theorem so_some {m : M D} (h : SndD G X W e m) : SndO G X W (some e) (somO m) := by
  intro w st σ Q r p pins s I
  refine (po_some pe_run).run pins s σ w.H Q I ?_
  have older_O : Older (fun (_ : Wd) (_ : Wd) (u : Option Int) (d : Option Int) => u = d) := fun _ _ _ _ _ _ h => h
  refine Snd.bind (run1 := RunE X e) h older_O r p fun d u w1 st1 r1 s1 q1 p1 => ?_
  cases d with
  | int i =>
    cases q1
    exact ⟨i, rfl, p1 (some i) w1 r1 (Step.refl _) rfl⟩
  | _ => exact p1.elim
def cutL {α : Type} (xs : List α) (lo hi : Option Int) : List α := (xs.drop (HT.sIx xs.length 0 lo)).take (HT.sIx xs.length xs.length hi - HT.sIx xs.length 0 lo)
def cutD : D → Option Int → Option Int → Option D
  | .str s, lo, hi => if s.length ≤ 16777216 then some (.str (cutL s lo hi)) else none
  | .tup xs, lo, hi => some (.tup (cutL xs lo hi))
  | .lst xs, lo, hi => some (.lst (cutL xs lo hi))
  | .scr xs, lo, hi => some (.lst (cutL (xs.map .int) lo hi))
  | _, _, _ => none
theorem cut_rep {K : PySem.W.Frag} {F : Hp} {vs : List V} {ds : List D} (r : RepL K G F vs ds) (lo hi : Option Int) : RepL K G F (cutV vs lo hi) (cutL ds lo hi) := by
  unfold cutV cutL
  rw [r.length]
  exact (r.drop _).take _
def rSl (K : PySem.W.Frag) (G : Nat → Addr) : V → Option Int → Option Int → Hp → VK → Prop := fun x lo hi H Q => ∃ w a z, w.H = H ∧ w.Ok ∧ RepB K G w x a ∧ cutD a lo hi = some z ∧ Giv K G w z Q
theorem cutL_whole {α : Type} {xs : List α} {lo hi : Option Int} (h : HT.sIx xs.length 0 lo = 0 ∧ HT.sIx xs.length xs.length hi = xs.length) : cutL xs lo hi = xs := by
  unfold cutL
  rw [h.1, h.2]
  simp
theorem slS : SlR X (rSl X.K G) := by
  intro pins s σ H x v vl vu lo hi sl Q I rx hs pl pu ⟨w, a, z, eH, ok, ra, eg, gv⟩
  subst eH
  cases a with
  | str t =>
    have eg' : (if t.length ≤ 16777216 then some (D.str (cutL t lo hi)) else none) = some z := eg
    by_cases hl : t.length ≤ 16777216
    · rw [if_pos hl] at eg'; cases eg'
      rw [repB_str ra] at rx
      refine sl_str pins s σ _ _ v vl vu lo hi sl Q I rx hs pl pu ⟨_, rfl, by rw [str_len, sizeLine_eq]; exact hl, ?_⟩
      have e : cutS ⟨t.toArray⟩ lo hi = ⟨(cutL t lo hi).toArray⟩ := by
        unfold cutS cutL
        rw [str_len]
      rw [e]
      exact giv_here ok gv (.str _)
    · rw [if_neg hl] at eg'; cases eg'
  | tup xs =>
    cases eg
    obtain ⟨p, vs, rfl, q, rr⟩ := repB_tup ra
    refine sl_tupA pins s σ _ _ v vl vu lo hi sl Q I rx hs pl pu ⟨p, vs, rfl, SqT.same ok.sub q, fun hw => ?_, fun hw p hp => ?_⟩
    · rw [rr.length] at hw
      rw [cutL_whole hw] at gv
      exact giv_here ok gv (.tup q rr)
    · exact giv_new ok gv hp (.tup (.inl (.inl upd_same)) ((cut_rep rr lo hi).mono (same_upd (ok.f_none hp))))
  | lst xs =>
    cases eg
    obtain ⟨p, vs, rfl, q, rr⟩ := repB_lst ok ra
    exact sl_list pins s σ _ _ v vl vu lo hi sl Q I rx hs pl pu ⟨p, vs, rfl, .inl (.inl q), fun p hp => giv_new ok gv hp (.lst upd_same ((cut_rep rr lo hi).mono (same_upd (ok.f_none hp))))⟩
  | scr xs =>
    cases eg
    obtain ⟨p, rfl, q⟩ := repB_scr ok ra
    exact sl_list pins s σ _ _ v vl vu lo hi sl Q I rx hs pl pu ⟨p, _, rfl, q, fun p hp => giv_new ok gv hp (.lst upd_same (cut_rep (rep_ints xs) lo hi))⟩
  | _ => cases eg
def sliceM (m : M D) (ml mh : M (Option Int)) : M D := bindM m fun d => bindM ml fun lo => bindM mh fun hi => liftM (cutD d lo hi)
theorem snd_slice {m : M D} {ml mh : M (Option Int)} {lo hi : Option Expr} {p2 : Pos} (he : SndD G X W e m) (hl : SndO G X W lo ml) (hh : SndO G X W hi mh) : SndD G X W (.Subscript e (.Slice lo hi none p2) pos) (sliceM m ml mh) := by
  intro w st σ Q r p
  refine RunE.of (pe_slice (slS (G := G)) pe_run po_run po_run) ?_
  refine Snd.bind (run1 := RunE X e) he older_D r p fun d u w1 st1 r1 s1 q1 p1 => ?_
  refine Snd.bind (run1 := RunO X lo) hl older_D r1 p1 fun l l' w2 st2 r2 s2 q2 p2 => ?_
  refine Snd.bind (run1 := RunO X hi) hh older_D r2 p2 fun h h' w3 st3 r3 s3 q3 p3 => ?_
  subst q2 q3
  have p4 : Post X.K G (RD X.K G) w3 σ W ((liftM (cutD d l' h') : M D) st3) Q := p3
  cases eg : cutD d l' h' with
  | none => rw [eg] at p4; exact p4.elim
  | some z => rw [eg] at p4; exact ⟨w3, d, z, rfl, r3.ok, .fz ((q1.mono s2.f).mono s3.f), eg, giv_of r3 p4⟩
end
end Rz
namespace Rz
open PySem PySem.Spec PyProof.Rows L2
inductive Res where
  | ret (v : Sl) (o : Env) | exc (x : Ex) (o : Env) | bad
def outs (io : List Nat) (st : Env) : Env := io.map fun i => (st[i]?).getD .un
def bodyF (n : Nat) (io : List Nat) (m : M Fl) (args : Env) : Res :=
  match m (args ++ List.replicate (n - args.length) .un) with
  | .ok (.rt v) st => .ret v (outs io st)
  | .ok .nx st => .ret (.fz .non) (outs io st)
  | .ok _ _ => .bad
  | .exc x st => .exc x (outs io st)
  | .bad => .bad
section
variable (K : PySem.W.Frag) (G : Nat → Addr)
def ArgR (w : Wd) (vs : List V) (args : Env) : Prop := vs.length = args.length ∧ (∀ (i : Nat) (s : Sl), args[i]? = some s → ∃ v, vs[i]? = some v ∧ SlotR K G w i (some v) s) ∧ Tk K w
def OutR (w : Wd) (vs : List V) (io : List Nat) (o : Env) : Prop := ∀ (j i : Nat) (s : Sl), io[j]? = some i → o[j]? = some s → ∃ v, vs[i]? = some v ∧ SlotR K G w i (some v) s
def spM (n : Nat) (io : List Nat) (f : Env → Res) : Sp := fun vs H Q E => vs.length = n ∧ ∃ w args, w.H = H ∧ w.Ok ∧ ArgR K G w vs args ∧ (∀ a i, w.k a = .own i → i ∈ io) ∧
  match f args with
  | .ret v o => ∀ u w', w'.Ok → Step w w' → FrR K G w w' u v → OutR K G w' vs io o → Q u w'.H
  | .exc x o => ∀ c d w', w'.Ok → Step w w' → ExR K G w' c d x → OutR K G w' vs io o → E c d w'.H
  | .bad => False
end
structure FnG (P : Program) (w : World) (K : PySem.W.Frag) (mg : Str → Option Value) (base : Heap) (CX : CXT) (k : Nat) (f : Addr) (fd : FuncData) (ps : List Str) (sp : Sp) : Prop where
  len : ∀ vs H Q E, sp vs H Q E → vs.length = ps.length
  run : ∀ (A : Around) (outer : List PySem.Env) (s : Shared) (H : Hp) (args : Args) (us : List Value) (vs : List V) (Q : VK) (E : XK), Room k A → A.guards = some [] → Env0 P w K mg base A outer s H → BindsTo s fd args (ps.zip us) → Vals vs us → sp vs H Q E →
    codeAny (model P w) A (.call (.ref f) args) (CR CX outer P w H s Q E) s
theorem FnG.of {P : Program} {w : World} {K : PySem.W.Frag} {mg : Str → Option Value} {base : Heap} {CX : CXT} {k : Nat} {f : Addr} {fd : FuncData} {ps : List Str} {sp : Sp} (F : FnOk P w K mg base CX k f fd ps sp) : FnG P w K mg base CX k f fd ps sp :=
  ⟨F.len, fun A outer s H args us vs Q E hr _ he hb hv hs => F.run A outer s H args us vs Q E hr he hb hv hs⟩
theorem FnG.mono {P : Program} {w : World} {K : PySem.W.Frag} {mg : Str → Option Value} {base : Heap} {CX : CXT} {j k : Nat} {f : Addr} {fd : FuncData} {ps : List Str} {sp : Sp} (F : FnG P w K mg base CX j f fd ps sp) (h : j ≤ k) : FnG P w K mg base CX k f fd ps sp :=
  ⟨F.len, fun A outer s H args us vs Q E hr => F.run A outer s H args us vs Q E (hr.mono h)⟩
theorem deeper_guards (A : Around) (env : PySem.Env) : (A.deeper env).guards = A.guards := rfl
def WXE (E : XK) : WX := fun cls d _ H => E cls d H
section
variable {K : PySem.W.Frag} {G : Nat → Addr} {w : Wd}
theorem rel_start {N : List Str} {vs : List V} {args : Env} (ok : w.Ok) (h : ArgR K G w vs args) (hl : vs.length ≤ N.length) : Rel K G w (args ++ List.replicate (N.length - args.length) .un) (L2.start N vs) := by
  obtain ⟨h1, h2, h3⟩ := h
  refine ⟨ok, ?_, fun i s e => ?_, h3⟩
  · unfold L2.start
    simp [h1]
  · by_cases hi : i < args.length
    · rw [List.getElem?_append_left hi] at e
      obtain ⟨v, ev, r⟩ := h2 i s e
      refine ⟨some v, ?_, r⟩
      unfold L2.start
      rw [List.getElem?_append_left (by simp; omega), List.getElem?_map, ev]; rfl
    · rw [List.getElem?_append_right (by omega), List.getElem?_replicate] at e
      split at e
      · cases e
        refine ⟨none, ?_, trivial⟩
        unfold L2.start
        rw [List.getElem?_append_right (by simp; omega), List.getElem?_replicate, if_pos (by simp; omega)]
      · cases e
theorem out_of {N : List Str} {vs : List V} {io : List Nat} {st : Env} {σ' : L2.St} {w' : Wd} (hio : ∀ i ∈ io, i < vs.length) (r : Rel K G w' st σ') (k : Kept io (L2.start N vs) σ') : OutR K G w' vs io (outs io st) := by
  intro j i s hj hs
  unfold outs at hs
  rw [List.getElem?_map, hj] at hs
  have hs : (st[i]?).getD .un = s := by simpa using hs
  have hi := hio i (List.mem_of_getElem? hj)
  have e1 : σ'[i]? = some (some (vs[i])) := by
    rw [k i (List.mem_of_getElem? hj)]
    unfold L2.start
    rw [List.getElem?_append_left (by simpa using hi), List.getElem?_map, List.getElem?_eq_getElem hi]; rfl
  refine ⟨vs[i], List.getElem?_eq_getElem hi, ?_⟩
  cases e : st[i]? with
  | none => rw [e] at hs; subst hs; trivial
  | some s' =>
    rw [e] at hs
    have hs : s' = s := hs
    subst hs
    obtain ⟨x, hx, q⟩ := r.at_ i s' e
    rw [e1] at hx
    cases hx
    exact q
theorem body_run {X : Cx} {N ps : List Str} {io : List Nat} {body : List Stmt} {m : M Fl} {vs : List V} {H : Hp} {Q : VK} {E : XK} (hN : ps.length ≤ N.length) (hio : ∀ i ∈ io, i < ps.length) (hb : SndB G X (WXE E) io body m)
    (h : spM X.K G ps.length io (bodyF N.length io m) vs H Q E) : RunB X body { nx := fun _ H' => Q .non H', rt := Q } (L2.start N vs) H := by
  obtain ⟨hl, w, args, rfl, ok, ar, own, h⟩ := h
  have r := rel_start ok ar (by omega : vs.length ≤ N.length)
  have hio' : ∀ i ∈ io, i < vs.length := fun i hi => by rw [hl]; exact hio i hi
  refine hb w w _ _ _ ok r (Step.refl w) own ?_
  unfold bodyF at h
  cases e : m (args ++ List.replicate (N.length - args.length) .un) with
  | bad => rw [e] at h; exact h
  | exc x st =>
    rw [e] at h
    exact fun c d w' σ' r' s' f k q => h c d w' r'.ok s' q (out_of hio' r' k)
  | ok fl st =>
    rw [e] at h
    cases fl with
    | nx => exact fun w' σ' r' s' f k => h .non w' r'.ok s' .non (out_of hio' r' k)
    | rt v => exact fun u w' σ' r' s' f k q => h u w' r'.ok s' q (out_of hio' r' k)
    | bk => exact h.elim
    | ct => exact h.elim
end
section
variable {P : Program} {w : World} {K : PySem.W.Frag} {mg : Str → Option Value} {base : Heap} {k : Nat} {f : Addr} {name qual : Str} {params : Arguments} {body : List Stmt} {scope : Scope} {dV kV doc pm cdv ct oc : Value} {an od : Option Addr}
    {osl : Array (Option Value)} {N ps : List Str} {G : Nat → Addr} {io : List Nat} {m : M Fl}
theorem fnOk_of (lk : K.lookup f = some ⟨oc, od, .func (PySem.W.fnOf name qual params body scope dV kV doc pm an cdv ct), osl⟩) (hcd : PySem.W.codeIn K cdv qual = true) (S : FnScope N ps scope) (hio : ∀ i ∈ io, i < ps.length)
    (hbody : ∀ (A : Around) (outer : List PySem.Env) (s : Shared) (H : Hp) (E : XK), Room k (A.deeper (envOfC qual scope s.heap.objs.size f cdv)) → SndB G (cxOf (L2.CX P w) P w K mg base N qual scope f cdv A outer s H E) (WXE E) io body m) :
    FnOk P w K mg base (L2.CX P w) (k + 1) f (PySem.W.fnOf name qual params body scope dV kV doc pm an cdv ct) ps (spM K G ps.length io (bodyF N.length io m)) := by
  have hN : ps.length ≤ N.length := by have := congrArg List.length S.pre; rw [List.length_take] at this; omega
  exact fn_of lk hcd S (fun vs H Q E h => h.1) fun A outer s H vs Q E hr hsp => ⟨_, pss_run, body_run (X := cxOf (L2.CX P w) P w K mg base N qual scope f cdv A outer s H E) hN hio (hbody A outer s H E hr) hsp⟩
theorem fnG_of (lk : K.lookup f = some ⟨oc, od, .func (PySem.W.fnOf name qual params body scope dV kV doc pm an cdv ct), osl⟩) (hcd : PySem.W.codeIn K cdv qual = true) (S : FnScope N ps scope) (hio : ∀ i ∈ io, i < ps.length)
    (hbody : ∀ (A : Around) (outer : List PySem.Env) (s : Shared) (H : Hp) (E : XK), Room k (A.deeper (envOfC qual scope s.heap.objs.size f cdv)) → (A.deeper (envOfC qual scope s.heap.objs.size f cdv)).guards = some [] →
      SndB G (cxOf (L2.CX P w) P w K mg base N qual scope f cdv A outer s H E) (WXE E) io body m) :
    FnG P w K mg base (L2.CX P w) (k + 1) f (PySem.W.fnOf name qual params body scope dV kV doc pm an cdv ct) ps (spM K G ps.length io (bodyF N.length io m)) := by
  have hN : ps.length ≤ N.length := by have := congrArg List.length S.pre; rw [List.length_take] at this; omega
  refine ⟨fun vs H Q E h => h.1, fun A outer s H args us vs Q E hr hg e0 hb r hsp => ?_⟩
  have hl : vs.length = ps.length := hsp.1
  have KX : K.In s.heap := e0.mod.kin.keeps fun b o e => (e0.bs b o e).1
  have lim : s.heap.NoLimit := e0.mod.nolimit.keeps fun b o e => (e0.bs b o e).1
  have hkind : ∀ y ∈ ps.zip us, scope.names.lookup y.1 = some .local ∨ (scope.names.lookup y.1 = some .cell ∧ ((PySem.cellsFrom (s.heap.objs.size + 1) scope.names []).lookup y.1).isSome = true) := fun ⟨n, v⟩ hy => by
    rcases S.par n (List.of_mem_zip hy).1 with q | q
    · exact .inl q
    · exact .inr ⟨q, PySem.W.cellsFrom_some _ _ _ (.inl q)⟩
  refine codeAny_call_function hr.depth (KX _ _ lk) rfl S.co S.gen rfl (PySem.W.codeRec_of KX hcd) (hb _ _ _ _ ?_)
  refine wpAny_newFunctionEnv_cells S.kind hkind fun env he s1 x => ?_
  subst he
  refine ⟨lim.keeps x.toInCall.keep, codeAny_func ?_⟩
  have I : Inv (cxOf (L2.CX P w) P w K mg base N qual scope f cdv A outer s H E) [] (L2.start N vs) H s1 := inv_start S hr.hd e0 hl r x
  have run := body_run (X := cxOf (L2.CX P w) P w K mg base N qual scope f cdv A outer s H E) hN hio (hbody A outer s H E (hr.deeper _) (by rw [deeper_guards]; exact hg)) hsp
  refine wpAny_mono (run [] s1 I) (fun fl s' hs => ?_) fun e s' hs => hs
  have fin : ∀ {σ' : L2.St} {H' : Hp} {v : V} {u : Value}, Inv (cxOf (L2.CX P w) P w K mg base N qual scope f cdv A outer s H E) [] σ' H' s' → RelV v u → Q v H' → CE outer P w H s Q u s' :=
    fun {σ' H' v u} J rv q => ⟨v, H', J.os, J.bare, J.base, J.hok, rv, q⟩
  cases fl with
  | ret u =>
    obtain ⟨v, σ', H', J, rv, q⟩ := hs
    exact fin J rv q
  | next =>
    obtain ⟨σ', H', J, q⟩ := hs
    exact fin (v := V.non) (u := Value.none) J rfl q
  | brk =>
    obtain ⟨_, _, _, q⟩ := hs
    exact False.elim q
  | cont =>
    obtain ⟨_, _, _, q⟩ := hs
    exact False.elim q
end
inductive Ag where
  | d (x : D) | io (c : Nat)
def AgR (K : PySem.W.Frag) (G : Nat → Addr) (σ : L2.St) (w : Wd) : V → Ag → Prop
  | v, .d x => Rep K G w.F v x
  | v, .io c => σ[c]? = some (some v)
inductive AgL (K : PySem.W.Frag) (G : Nat → Addr) (σ : L2.St) (w : Wd) : List V → List Ag → Prop
  | nil : AgL K G σ w [] []
  | cons {v : V} {vs : List V} {a : Ag} {as : List Ag} : AgR K G σ w v a → AgL K G σ w vs as → AgL K G σ w (v :: vs) (a :: as)
section
variable {K : PySem.W.Frag} {G : Nat → Addr} {σ : L2.St} {w w' : Wd}
theorem AgL.length : ∀ {vs : List V} {as : List Ag}, AgL K G σ w vs as → vs.length = as.length
  | _, _, .nil => rfl
  | _, _, .cons _ t => congrArg Nat.succ (AgL.length t)
theorem AgL.get : ∀ {vs : List V} {as : List Ag} {i : Nat} {a : Ag}, AgL K G σ w vs as → as[i]? = some a → ∃ v, vs[i]? = some v ∧ AgR K G σ w v a
  | _, _, _, _, .nil, e => by simp at e
  | _, _, 0, _, .cons r _, e => by simp at e; subst e; exact ⟨_, rfl, r⟩
  | _, _, i + 1, d, .cons _ t, e => by
    obtain ⟨u, h1, h2⟩ := AgL.get (i := i) (a := d) t (by simpa using e)
    exact ⟨u, by simpa using h1, h2⟩
theorem AgR.mono (f : Same w.F w'.F) {v : V} {a : Ag} (r : AgR K G σ w v a) : AgR K G σ w' v a := by
  cases a with
  | d x => exact Rep.mono f r
  | io c => exact r
end
def SndA (G : Nat → Addr) (X : Cx) (W : WX) (es : List Expr) (m : M (List Ag)) : Prop :=
  ∀ w st σ Q, Rel X.K G w st σ → Post X.K G (fun _ w' us as => AgL X.K G σ w' us as) w σ W (m st) Q → RunL X es σ w.H Q
def nilA : M (List Ag) := pureM []
def consA (m : M D) (ml : M (List Ag)) : M (List Ag) := bindM m fun d => bindM ml fun as => pureM (.d d :: as)
def ownd : Sl → Bool
  | .ml _ => true
  | .md _ => true
  | .mi _ _ => true
  | _ => false
def consIO (i : Nat) (ml : M (List Ag)) : M (List Ag) := fun st => match st[i]? with
  | some s => if ownd s = true then (ml st).bind fun as => pureM (.io i :: as) else .bad
  | none => .bad
section
variable {G : Nat → Addr} {X : Cx} {W : WX} {e : Expr} {es : List Expr} {pos : Pos} {w w' w0 : Wd} {st : Env} {σ : L2.St}
theorem older_A {K : PySem.W.Frag} : Older (fun (_ : Wd) (w' : Wd) us as => AgL K G σ w' us as) := fun _ _ _ _ _ _ h => h
theorem sa_nil : SndA G X W [] nilA := fun w st σ Q r p => p [] w r (Step.refl w) .nil
theorem sa_d {m : M D} {ml : M (List Ag)} (h : SndD G X W e m) (hl : SndA G X W es ml) : SndA G X W (e :: es) (consA m ml) := by
  intro w st σ Q r p
  show RunE X e σ w.H _
  refine Snd.bind (run1 := RunE X e) h older_A r p fun d u w1 st1 r1 s1 q1 p1 => ?_
  refine hl w1 st1 σ _ r1 ?_
  unfold bindM at p1
  cases e1 : ml st1 with
  | bad => rw [e1] at p1; exact p1
  | exc x st2 => rw [e1] at p1; exact p1
  | ok as st2 =>
    rw [e1] at p1
    exact fun us w2 r2 s2 q2 => p1 (u :: us) w2 r2 s2 (.cons (Rep.mono s2.f q1) q2)
theorem sa_io {ml : M (List Ag)} {i : Nat} {x : Str} (hl : SndA G X W es ml) (hN : X.N[i]? = some x := by rfl) (hv : Vis X.env.scope x := by first | exact Or.inl rfl | exact Or.inr (Or.inl rfl) | exact Or.inr (Or.inr rfl))
    (hd : (x == ("__debug__" : Str)) = false := by decide) (hcd : (x == ("__classdict__" : Str)) = false := by decide) : SndA G X W (.Name x pos :: es) (consIO i ml) := by
  intro w st σ Q r p
  unfold consIO at p
  cases e : st[i]? with
  | none => rw [e] at p; exact p.elim
  | some s =>
    rw [e] at p
    have p : Post X.K G (fun _ w' us as => AgL X.K G σ w' us as) w σ W (if ownd s = true then (ml st).bind fun as => pureM (.io i :: as) else .bad) Q := p
    by_cases ho : ownd s = true
    · rw [if_pos ho] at p
      obtain ⟨v, ev, _⟩ := see_rel r e (by rintro rfl; cases ho)
      refine RunE.of (pe_var hN hv hd hcd) ⟨v, ev, ?_⟩
      refine hl w st σ _ r ?_
      cases e1 : ml st with
      | bad => rw [e1] at p; exact p
      | exc x st2 => rw [e1] at p; exact p
      | ok as st2 =>
        rw [e1] at p
        exact fun us w2 r2 s2 q2 => p (v :: us) w2 r2 s2 (.cons ev q2)
    · rw [if_neg ho] at p; exact p.elim
end
def isIO (c : Nat) : Ag → Bool
  | .io c' => c' == c
  | _ => false
def rho (as : List Ag) (c : Nat) : Option Nat := as.findIdx? (isIO c)
def slOf (st : Env) : Ag → Sl
  | .d x => .fz x
  | .io c => (st[c]?).getD .un
def agsOk (st : Env) (as : List Ag) (io : List Nat) : Bool := (List.range as.length).all fun i => match as[i]? with
  | some (.io c) => decide (rho as c = some i) && ownd ((st[c]?).getD .un) && io.contains i
  | _ => true
def backs (st : Env) (as : List Ag) : List Nat → Env → Env
  | i :: io, s :: o => match as[i]? with
    | some (.io c) => (backs st as io o).set c s
    | _ => backs st as io o
  | _, _ => st
def callM (f : Env → Res) (io : List Nat) (ma : M (List Ag)) : M Sl := fun st => match ma st with
  | .ok as st1 => if agsOk st1 as io = true then (match f (as.map (slOf st1)) with
    | .ret v o => if o.length = io.length then .ok v (backs st1 as io o) else .bad
    | .exc x o => if o.length = io.length then .exc x (backs st1 as io o) else .bad
    | .bad => .bad) else .bad
  | .exc x st1 => .exc x st1
  | .bad => .bad
def Wd.fore (w : Wd) (as : List Ag) : Wd := ⟨w.F, fun a => match w.k a with
  | .own c => (match rho as c with
    | some i => .own i
    | none => .oth)
  | x => x, w.H⟩
def Wd.aft (w w1 : Wd) (as : List Ag) : Wd := ⟨w1.F, fun a => match w.k a with
  | .own c => (match rho as c with
    | some _ => (match w1.k a with
      | .frz => .frz
      | _ => .own c)
    | none => .own c)
  | _ => w1.k a, w1.H⟩
theorem rho_at {as : List Ag} {c i : Nat} (h : rho as c = some i) : as[i]? = some (.io c) := by
  unfold rho at h
  obtain ⟨hl, h1, _⟩ := List.findIdx?_eq_some_iff_getElem.mp h
  rw [List.getElem?_eq_getElem hl]
  cases e : as[i] with
  | d x => rw [e] at h1; cases h1
  | io c' =>
    rw [e] at h1
    have : c' = c := by simpa [isIO] using h1
    rw [this]
theorem agsOk_at {st : Env} {as : List Ag} {io : List Nat} (h : agsOk st as io = true) {i c : Nat} (e : as[i]? = some (.io c)) : rho as c = some i ∧ ownd ((st[c]?).getD .un) = true ∧ i ∈ io := by
  have hi := (List.getElem?_eq_some_iff.mp e).1
  have q := List.all_eq_true.mp h i (List.mem_range.mpr hi)
  rw [e] at q
  have q : (decide (rho as c = some i) && ownd ((st[c]?).getD .un) && io.contains i) = true := q
  rw [Bool.and_eq_true, Bool.and_eq_true] at q
  exact ⟨of_decide_eq_true q.1.1, q.1.2, by simpa using q.2⟩
theorem backs_length (st : Env) (as : List Ag) : ∀ (io : List Nat) (o : Env), (backs st as io o).length = st.length
  | [], _ => by simp [backs]
  | _ :: _, [] => by simp [backs]
  | i :: io, s :: o => by
    unfold backs
    split
    · rw [List.length_set, backs_length st as io o]
    · exact backs_length st as io o
theorem backs_get (st : Env) (as : List Ag) : ∀ (io : List Nat) (o : Env) (c : Nat) (s : Sl), (backs st as io o)[c]? = some s →
    (∃ j i : Nat, io[j]? = some i ∧ as[i]? = some (Ag.io c) ∧ o[j]? = some s) ∨ (st[c]? = some s ∧ ∀ j i : Nat, io[j]? = some i → as[i]? = some (Ag.io c) → o[j]? = none)
  | [], o, c, s, h => by
    right
    have h : st[c]? = some s := by simpa [backs] using h
    exact ⟨h, fun j i e => by simp at e⟩
  | i :: io, [], c, s, h => by
    right
    have h : st[c]? = some s := by simpa [backs] using h
    exact ⟨h, fun j i e _ => by simp⟩
  | i :: io, s0 :: o, c, s, h => by
    have up : ∀ {P : Prop}, ((∃ j i : Nat, io[j]? = some i ∧ as[i]? = some (Ag.io c) ∧ o[j]? = some s) ∨ (st[c]? = some s ∧ ∀ j i : Nat, io[j]? = some i → as[i]? = some (Ag.io c) → o[j]? = none)) → as[i]? ≠ some (Ag.io c) →
        (∃ j i' : Nat, (i :: io)[j]? = some i' ∧ as[i']? = some (Ag.io c) ∧ (s0 :: o)[j]? = some s) ∨ (st[c]? = some s ∧ ∀ j i' : Nat, (i :: io)[j]? = some i' → as[i']? = some (Ag.io c) → (s0 :: o)[j]? = none) := by
      intro _ q hn
      rcases q with ⟨j, i', h1, h2, h3⟩ | ⟨h1, h2⟩
      · exact .inl ⟨j + 1, i', by simpa using h1, h2, by simpa using h3⟩
      · refine .inr ⟨h1, fun j i' e1 e2 => ?_⟩
        cases j with
        | zero => simp at e1; subst e1; exact absurd e2 hn
        | succ j => simpa using h2 j i' (by simpa using e1) e2
    unfold backs at h
    split at h
    · rename_i c' hc
      by_cases e : c = c'
      · subst e
        have hl := set_get h
        rw [List.getElem?_set_self hl] at h
        cases h
        exact .inl ⟨0, i, rfl, hc, rfl⟩
      · rw [List.getElem?_set_ne (fun z => e z.symm)] at h
        exact up (P := True) (backs_get st as io o c s h) (by rw [hc]; intro z; cases z; exact e rfl)
    · rename_i hc
      exact up (P := True) (backs_get st as io o c s h) (fun z => hc c z)
section
variable {K : PySem.W.Frag} {G : Nat → Addr} {w w1 : Wd} {st : Env} {σ : L2.St} {as : List Ag} {io : List Nat}
theorem fore_own {a : Addr} {i : Nat} (h : (w.fore as).k a = .own i) : ∃ c, w.k a = .own c ∧ rho as c = some i := by
  unfold Wd.fore at h
  dsimp only at h
  cases e : w.k a with
  | own c =>
    rw [e] at h
    have h : (match rho as c with | some i => Kd.own i | none => .oth) = .own i := h
    cases er : rho as c with
    | some j => rw [er] at h; cases h; exact ⟨c, rfl, er⟩
    | none => rw [er] at h; cases h
  | oth => rw [e] at h; cases h
  | frz => rw [e] at h; cases h
  | tab q => rw [e] at h; cases h
theorem fore_tab {a : Addr} {q : Str} : (w.fore as).k a = .tab q ↔ w.k a = .tab q := by
  unfold Wd.fore; dsimp only
  cases e : w.k a with
  | own c => dsimp only; cases rho as c <;> simp
  | oth => simp
  | frz => simp
  | tab q => simp
theorem fore_io {a : Addr} {i c : Nat} (h : w.k a = .own c) (hr : rho as c = some i) : (w.fore as).k a = .own i := by
  unfold Wd.fore; dsimp only; rw [h]; dsimp only; rw [hr]
theorem fore_no {a : Addr} {c : Nat} (h : w.k a = .own c) (hr : rho as c = none) : (w.fore as).k a = .oth := by
  unfold Wd.fore; dsimp only; rw [h]; dsimp only; rw [hr]
theorem fore_oth {a : Addr} (h : w.k a = .oth) : (w.fore as).k a = .oth := by
  unfold Wd.fore; dsimp only; rw [h]
theorem fore_frz {a : Addr} : (w.fore as).k a = .frz ↔ w.k a = .frz := by
  unfold Wd.fore; dsimp only
  cases e : w.k a with
  | own c => dsimp only; cases rho as c <;> simp
  | oth => simp
  | frz => simp
  | tab q => simp
theorem fore_ok (ok : w.Ok) : (w.fore as).Ok :=
  ⟨ok.sub, fun a => fore_frz.trans (ok.kf a), fun a i h => let ⟨c, hc, _⟩ := fore_own h; ok.ko a c hc, fun a q h => ok.kt a q (fore_tab.mp h), fun a ps e => let ⟨q, h⟩ := ok.kd a ps e; ⟨q, fore_tab.mpr h⟩, fun a c n e => fore_frz.mpr (ok.kc a c n e)⟩
theorem aft_own_no {a : Addr} {c : Nat} (h : w.k a = .own c) (hr : rho as c = none) : (w.aft w1 as).k a = .own c := by
  unfold Wd.aft; dsimp only; rw [h]; dsimp only; rw [hr]
theorem aft_own_frz {a : Addr} {c i : Nat} (h : w.k a = .own c) (hr : rho as c = some i) (h1 : w1.k a = .frz) : (w.aft w1 as).k a = .frz := by
  unfold Wd.aft; dsimp only; rw [h]; dsimp only; rw [hr]; dsimp only; rw [h1]
theorem aft_own {a : Addr} {c i : Nat} (h : w.k a = .own c) (hr : rho as c = some i) (h1 : w1.k a ≠ .frz) : (w.aft w1 as).k a = .own c := by
  unfold Wd.aft; dsimp only; rw [h]; dsimp only; rw [hr]; dsimp only
  cases e : w1.k a with
  | frz => exact absurd e h1
  | _ => rfl
theorem aft_oth {a : Addr} (h : ∀ c, w.k a ≠ .own c) : (w.aft w1 as).k a = w1.k a := by
  unfold Wd.aft; dsimp only
  cases e : w.k a with
  | own c => exact absurd e (h c)
  | _ => rfl
theorem aft_ok (ok : w.Ok) (ok1 : w1.Ok) (s : Step (w.fore as) w1) : (w.aft w1 as).Ok where
  sub := ok1.sub
  kf := fun a => by
    refine Iff.trans ?_ (ok1.kf a)
    cases e : w.k a with
    | own c =>
      cases er : rho as c with
      | none =>
        rw [aft_own_no e er]
        obtain ⟨o, ho⟩ := ok.ko a c e
        have := (s.o a o ho (fore_no e er)).2
        rw [this]; simp
      | some i =>
        by_cases h1 : w1.k a = .frz
        · rw [aft_own_frz e er h1, h1]
        · rw [aft_own e er h1]; simp [h1]
    | oth => rw [aft_oth (by rw [e]; intro c z; cases z)]
    | frz => rw [aft_oth (by rw [e]; intro c z; cases z)]
    | tab q => rw [aft_oth (by rw [e]; intro c z; cases z)]
  kt := fun a q h => by
    cases e : w.k a with
    | own c =>
      cases er : rho as c with
      | none => rw [aft_own_no e er] at h; cases h
      | some i =>
        by_cases h1 : w1.k a = .frz
        · rw [aft_own_frz e er h1] at h; cases h
        · rw [aft_own e er h1] at h; cases h
    | oth => rw [aft_oth (by rw [e]; intro c z; cases z)] at h; exact ok1.kt a q h
    | frz => rw [aft_oth (by rw [e]; intro c z; cases z)] at h; exact ok1.kt a q h
    | tab q => rw [aft_oth (by rw [e]; intro c z; cases z)] at h; exact ok1.kt a _ h
  kd := fun a ps h => by
    obtain ⟨q, k1⟩ := ok1.kd a ps h
    refine ⟨q, ?_⟩
    have k0 := fore_tab.mp ((s.t a q).mpr k1)
    rw [aft_oth (by rw [k0]; intro c z; cases z)]; exact k1
  kc := fun a c n h => by
    have k1 := ok1.kc a c n h
    cases e : w.k a with
    | own c' =>
      cases er : rho as c' with
      | none =>
        obtain ⟨o, ho⟩ := ok.ko a c' e
        have := (s.o a o ho (fore_no e er)).2
        rw [k1] at this; cases this
      | some i => exact aft_own_frz e er k1
    | oth => rw [aft_oth (by rw [e]; intro c z; cases z)]; exact k1
    | frz => rw [aft_oth (by rw [e]; intro c z; cases z)]; exact k1
    | tab q => rw [aft_oth (by rw [e]; intro c z; cases z)]; exact k1
  ko := fun a c h => by
    cases e : w.k a with
    | own c' =>
      obtain ⟨o, ho⟩ := ok.ko a c' e
      cases q : w1.H a with
      | some o' => exact ⟨o', q⟩
      | none =>
        have q2 : w.H a = none := s.d a q
        rw [ho] at q2; cases q2
    | oth => rw [aft_oth (by rw [e]; intro c z; cases z)] at h; exact ok1.ko a c h
    | frz => rw [aft_oth (by rw [e]; intro c z; cases z)] at h; exact ok1.ko a c h
    | tab q => rw [aft_oth (by rw [e]; intro c z; cases z)] at h; exact ok1.ko a c h
theorem aft_step (ok : w.Ok) (ok1 : w1.Ok) (s : Step (w.fore as) w1) : Step w (w.aft w1 as) where
  f := s.f
  o := fun a o h k => by
    obtain ⟨h1, k1⟩ := s.o a o h (fore_oth k)
    exact ⟨h1, by rw [aft_oth (by rw [k]; intro c z; cases z)]; exact k1⟩
  d := s.d
  t := fun a q => by
    refine (fore_tab.symm.trans (s.t a q)).trans ?_
    cases e : w.k a with
    | own c =>
      have n1 : w1.k a ≠ .tab q := fun z => by
        have := fore_tab.mp ((s.t a q).mpr z)
        rw [e] at this; cases this
      cases er : rho as c with
      | none => rw [aft_own_no e er]; exact ⟨fun z => absurd z n1, fun z => by cases z⟩
      | some i =>
        by_cases h1 : w1.k a = .frz
        · rw [aft_own_frz e er h1]; exact ⟨fun z => absurd z n1, fun z => by cases z⟩
        · rw [aft_own e er h1]; exact ⟨fun z => absurd z n1, fun z => by cases z⟩
    | oth => rw [aft_oth (by rw [e]; intro c z; cases z)]
    | frz => rw [aft_oth (by rw [e]; intro c z; cases z)]
    | tab q => rw [aft_oth (by rw [e]; intro c z; cases z)]
  w := fun a c e => by
    cases er : rho as c with
    | none => exact .inl (aft_own_no e er)
    | some i =>
      by_cases h1 : w1.k a = .frz
      · exact .inr (aft_own_frz e er h1)
      · exact .inl (aft_own e er h1)
theorem aft_fr (ok : w.Ok) {u : V} {v : Sl} (h : FrR K G (w.fore as) w1 u v) : FrR K G w (w.aft w1 as) u v := by
  have no : ∀ a, w.H a = none → ∀ c, w.k a ≠ .own c := fun a hn c z => by
    obtain ⟨o, ho⟩ := ok.ko a c z
    rw [hn] at ho; cases ho
  cases v with
  | un => exact h
  | fz d => exact h
  | ml xs => obtain ⟨a, vs, e, n, k, hh, r⟩ := h; exact ⟨a, vs, e, n, by rw [aft_oth (no a n)]; exact k, hh, r⟩
  | md xs => obtain ⟨a, vs, e, n, k, hh, r⟩ := h; exact ⟨a, vs, e, n, by rw [aft_oth (no a n)]; exact k, hh, r⟩
  | mi c xs => obtain ⟨a, dx, vs, e, n, k, hh, r⟩ := h; exact ⟨a, dx, vs, e, n, by rw [aft_oth (no a n)]; exact k, hh, r⟩
theorem slot_back {a : Addr} {i c : Nat} (h : w.k a = .own c) (hr : rho as c = some i) (h1 : w1.k a = .own i) : (w.aft w1 as).k a = .own c := aft_own h hr (by rw [h1]; intro z; cases z)
theorem aft_rel {vs : List V} {o : Env} (r : Rel K G w st σ) (ok1 : w1.Ok) (s : Step (w.fore as) w1) (ha : AgL K G σ w vs as) (hk : agsOk st as io = true) (ho : o.length = io.length) (hO : OutR K G w1 vs io o) :
    Rel K G (w.aft w1 as) (backs st as io o) σ := by
  refine ⟨aft_ok r.ok ok1 s, by rw [backs_length]; exact r.len, fun c sl e => ?_, r.tk.step (aft_step r.ok ok1 s)⟩
  rcases backs_get st as io o c sl e with ⟨j, i, h1, h2, h3⟩ | ⟨h1, h2⟩
  · obtain ⟨v, ev, q⟩ := hO j i sl h1 h3
    obtain ⟨v', ev', q'⟩ := ha.get h2
    rw [ev] at ev'
    cases ev'
    have hσ : σ[c]? = some (some v) := q'
    obtain ⟨hr, hown, hio⟩ := agsOk_at hk h2
    refine ⟨some v, hσ, ?_⟩
    have own : ∃ a, v = .ref a ∧ w.k a = .own c := by
      cases es : st[c]? with
      | none => rw [es] at hown; cases hown
      | some s0 =>
        rw [es] at hown
        have hown : ownd s0 = true := hown
        obtain ⟨x, hx, q0⟩ := r.at_ c s0 es
        rw [hσ] at hx
        cases hx
        cases s0 with
        | ml xs => obtain ⟨a, vs, e1, k, _⟩ := q0; exact ⟨a, Option.some.inj e1, k⟩
        | md xs => obtain ⟨a, vs, e1, k, _⟩ := q0; exact ⟨a, Option.some.inj e1, k⟩
        | mi c' xs => obtain ⟨a, dx, vs, e1, k, _⟩ := q0; exact ⟨a, Option.some.inj e1, k⟩
        | _ => cases hown
    obtain ⟨a0, rfl, k0⟩ := own
    cases sl with
    | un => trivial
    | fz d => exact q
    | ml xs => obtain ⟨a, vs, e1, k, hh, rr⟩ := q; cases e1; exact ⟨_, vs, rfl, slot_back k0 hr k, hh, rr⟩
    | md xs => obtain ⟨a, vs, e1, k, hh, rr⟩ := q; cases e1; exact ⟨_, vs, rfl, slot_back k0 hr k, hh, rr⟩
    | mi c' xs => obtain ⟨a, dx, vs, e1, k, hh, rr⟩ := q; cases e1; exact ⟨_, dx, vs, rfl, slot_back k0 hr k, hh, rr⟩
  · have hr : rho as c = none := by
      cases er : rho as c with
      | none => rfl
      | some i =>
        have ea := rho_at er
        obtain ⟨_, _, hio⟩ := agsOk_at hk ea
        obtain ⟨j, hj, ej⟩ := List.getElem_of_mem hio
        have := h2 j i (by rw [List.getElem?_eq_getElem hj, ej]) ea
        rw [List.getElem?_eq_none_iff] at this
        omega
    obtain ⟨x, hx, q⟩ := r.at_ c sl h1
    refine ⟨x, hx, ?_⟩
    have keep : ∀ a o, w.k a = .own c → w.H a = some o → w1.H a = some o := fun a o k h => (s.o a o h (fore_no k hr)).1
    cases sl with
    | un => trivial
    | fz d => obtain ⟨v, e1, q⟩ := q; exact ⟨v, e1, q.mono s.f⟩
    | ml xs => obtain ⟨a, vs, e1, k, hh, rr⟩ := q; exact ⟨a, vs, e1, aft_own_no k hr, keep _ _ k hh, rr.mono s.f⟩
    | md xs => obtain ⟨a, vs, e1, k, hh, rr⟩ := q; exact ⟨a, vs, e1, aft_own_no k hr, keep _ _ k hh, rr.mono s.f⟩
    | mi c' xs => obtain ⟨a, dx, vs, e1, k, hh, rr⟩ := q; exact ⟨a, dx, vs, e1, aft_own_no k hr, keep _ _ k hh, rr.mono s.f⟩
theorem fore_args {vs : List V} (r : Rel K G w st σ) (ha : AgL K G σ w vs as) (hk : agsOk st as io = true) : ArgR K G (w.fore as) vs (as.map (slOf st)) := by
  refine ⟨by rw [List.length_map]; exact ha.length, fun i s e => ?_, r.tk.of fun a q => fore_tab⟩
  rw [List.getElem?_map] at e
  cases ea : as[i]? with
  | none => rw [ea] at e; cases e
  | some a =>
    rw [ea] at e
    have e : slOf st a = s := by simpa using e
    obtain ⟨v, ev, q⟩ := ha.get ea
    refine ⟨v, ev, ?_⟩
    cases a with
    | d x => subst e; exact ⟨v, rfl, q⟩
    | io c =>
      have hσ : σ[c]? = some (some v) := q
      obtain ⟨hr, hown, _⟩ := agsOk_at hk ea
      have e : (st[c]?).getD .un = s := e
      rw [e] at hown
      cases es : st[c]? with
      | none => rw [es] at e; subst e; cases hown
      | some s0 =>
        rw [es] at e
        have e : s0 = s := e
        subst e
        obtain ⟨x, hx, q0⟩ := r.at_ c s0 es
        rw [hσ] at hx
        cases hx
        cases s0 with
        | ml xs => obtain ⟨a, vs, e1, k, hh, rr⟩ := q0; exact ⟨a, vs, e1, fore_io k hr, hh, rr⟩
        | md xs => obtain ⟨a, vs, e1, k, hh, rr⟩ := q0; exact ⟨a, vs, e1, fore_io k hr, hh, rr⟩
        | mi c' xs => obtain ⟨a, dx, vs, e1, k, hh, rr⟩ := q0; exact ⟨a, dx, vs, e1, fore_io k hr, hh, rr⟩
        | _ => cases hown
theorem sp_of {W : WX} {f : Env → Res} {vs : List V} {Q : VK} {w0 : Wd} (r : Rel K G w st σ) (ha : AgL K G σ w vs as) (hk : agsOk st as io = true) (n : Nat) (hn : vs.length = n)
    (p : Post K G (RV K G) w σ W (match f (as.map (slOf st)) with
      | .ret v o => if o.length = io.length then Out.ok v (backs st as io o) else .bad
      | .exc x o => if o.length = io.length then .exc x (backs st as io o) else .bad
      | .bad => .bad) Q) : spM K G n io f vs w.H Q (WE W σ) := by
  refine ⟨hn, w.fore as, as.map (slOf st), rfl, fore_ok r.ok, fore_args r ha hk, fun a i h => ?_, ?_⟩
  · obtain ⟨c, hc, hr⟩ := fore_own h
    exact (agsOk_at hk (rho_at hr)).2.2
  · cases e : f (as.map (slOf st)) with
    | bad => rw [e] at p; exact p
    | ret v o =>
      rw [e] at p
      have p : Post K G (RV K G) w σ W (if o.length = io.length then Out.ok v (backs st as io o) else .bad) Q := p
      by_cases ho : o.length = io.length
      · rw [if_pos ho] at p
        exact fun u w1 ok1 s1 q1 h1 => p u (w.aft w1 as) (aft_rel r ok1 s1 ha hk ho h1) (aft_step r.ok ok1 s1) (aft_fr r.ok q1)
      · rw [if_neg ho] at p; exact p.elim
    | exc x o =>
      rw [e] at p
      have p : Post K G (RV K G) w σ W (if o.length = io.length then Out.exc x (backs st as io o) else .bad) Q := p
      by_cases ho : o.length = io.length
      · rw [if_pos ho] at p
        exact fun c d w1 ok1 s1 q1 h1 => p c d (w.aft w1 as) (aft_rel r ok1 s1 ha hk ho h1) (aft_step r.ok ok1 s1) q1
      · rw [if_neg ho] at p; exact p.elim
end
section
variable {G : Nat → Addr} {X : Cx} {W : WX} {es : List Expr} {p pos : Pos} {f : Env → Res} {io : List Nat} {k : Nat} {fa : Addr} {fd : FuncData} {ps : List Str} {x : Str} {ma : M (List Ag)}
theorem run_fnG {pins : List (Addr × Obj)} {σ : L2.St} {H : Hp} {s : Shared} {Q : VK} {us : List Value} {vs : List V} {sp : Sp} {E : XK} (F : FnG X.prog X.w X.K X.mg X.base (L2.CX X.prog X.w) k fa fd ps sp) (hr : Room k X.A) (hg : X.A.guards = some []) (hb : Binds X.K fd ps []) (hx : PassesAt (L2.CX X.prog X.w) X σ E)
    (I : Inv X pins σ H s) (r : Vals vs us) (h : sp vs H Q E) : wpAny (model X.prog X.w) X.A (call (.ref fa) us) (EP X pins σ Q) X.xe s := by
  have hl : us.length = ps.length := by rw [← r.length]; exact F.len _ _ _ _ h
  have b := hb s us I.kIn (by rw [List.append_nil]; exact hl)
  rw [List.append_nil] at b
  refine wpAny_call (codeAny_mono (F.run X.A X.stack s H ⟨us, []⟩ us vs Q E hr hg I.env0 b r h) fun r s' hq => ?_)
  cases r with
  | error e => exact hx pins H s e s' I hq
  | ok fl =>
    cases fl with
    | ret u => exact I.after hq
    | next => exact False.elim hq
    | brk => exact False.elim hq
    | cont => exact False.elim hq
theorem args_then {σ : L2.St} {w : Wd} {st : Env} {Q : VK} (ha : SndA G X W es ma) (r : Rel X.K G w st σ) (p : Post X.K G (RV X.K G) w σ W (callM f io ma st) Q) (n : Nat) :
    RunL X es σ w.H fun us H => us.length = n → spM X.K G n io f us H Q (WE W σ) := by
  refine ha w st σ _ r ?_
  unfold callM at p
  cases e : ma st with
  | bad => rw [e] at p; exact p
  | exc x st1 => rw [e] at p; exact p
  | ok as st1 =>
    rw [e] at p
    intro us w1 r1 s1 q1 hn
    have p : Post X.K G (RV X.K G) w σ W (if agsOk st1 as io = true then (match f (as.map (slOf st1)) with
      | .ret v o => if o.length = io.length then Out.ok v (backs st1 as io o) else .bad
      | .exc x o => if o.length = io.length then .exc x (backs st1 as io o) else .bad
      | .bad => .bad) else .bad) Q := p
    by_cases hk : agsOk st1 as io = true
    · rw [if_pos hk] at p
      exact sp_of (w0 := w) r1 q1 hk n hn (Post.shift r1.ok s1 older_V p)
    · rw [if_neg hk] at p; exact p.elim
theorem RunL.len {σ : L2.St} : ∀ {es : List Expr} {H : Hp} {Q : List V → Hp → Prop}, RunL X es σ H (fun us H' => us.length = es.length → Q us H') → RunL X es σ H Q
  | [], _, _, h => h rfl
  | e :: es, H, Q, h => RunE.mk fun pins s I => thn (RunE.run (e := e) h pins s I) fun v s1 ⟨x, H1, I1, r1, q1⟩ => ⟨x, H1, I1, r1, RunL.len (es := es) (by
      have q1 : RunL X es σ H1 fun xs H2 => (x :: xs).length = (e :: es).length → Q (x :: xs) H2 := q1
      have e1 : (fun (xs : List V) H2 => (x :: xs).length = (e :: es).length → Q (x :: xs) H2) = fun xs H2 => xs.length = es.length → Q (x :: xs) H2 := by
        funext xs H2
        simp
      rw [e1] at q1
      exact q1)⟩
theorem snd_call {e : Expr} (tk : Takes X W) (F : FnG X.prog X.w X.K X.mg X.base (L2.CX X.prog X.w) k fa fd ps (spM X.K G ps.length io f)) (hr : Room k X.A) (hgd : X.A.guards = some []) (hg : Gl X x) (hm : X.mg x = some (.ref fa))
    (hk : PySem.W.keepIn X.K (.ref fa) = true) (hb : Binds X.K fd ps []) (hl : SndA G X W (e :: es) ma) (hn : (e :: es).length = ps.length) (ha : PA X (e :: es) (RunL X (e :: es)))
    (hdb : (x == ("__debug__" : Str)) = false := by decide) (he : starEach (e :: es) X.env = (false, eval e X.env) :: starEach es X.env := by rfl) (hpl : (backTo pos (starEach es X.env)).any (·.1) = false := by rfl) :
    SndV G X W (.Call (.Name x p) (e :: es) [] pos) (callM f io ma) := by
  intro w st σ Q r pq; refine ⟨fun pins s I => ?_⟩
  have h1 : RunL X (e :: es) σ w.H fun us H => spM X.K G ps.length io f us H Q (WE W σ) := by
    refine RunL.len ?_
    rw [hn]
    exact args_then hl r pq ps.length
  refine wpAny_Call_Name_kw (ld_glob I hg hm ?_ hdb)
  refine PySem.W.callWith_K (h₀ := X.base) I.ok.mod.kin hk (thn (ha.run pos pins s σ w.H _ I h1) fun us s1 ⟨vs, H1, I1, r, q⟩ => ⟨I1.kIn, ?_⟩) he hpl
  exact run_fnG F hr hgd hb (passAt tk σ) I1 r q
end
end Rz
namespace Rz
open PySem PySem.Spec PyProof.Rows L2
def intsOf : List D → Option (List Int)
  | [] => some []
  | .int i :: r => (intsOf r).map (i :: ·)
  | _ => none
def strsOf : List D → Option (List (List Nat))
  | [] => some []
  | .str i :: r => (strsOf r).map (i :: ·)
  | _ => none
def blsOf : List D → Option (List Bool)
  | [] => some []
  | .bl i :: r => (blsOf r).map (i :: ·)
  | _ => none
theorem intsOf_eq : ∀ {ds : List D} {ns : List Int}, intsOf ds = some ns → ds = ns.map .int
  | [], _, h => by cases h; rfl
  | .int i :: r, ns, h => by
    obtain ⟨ms, h1, rfl⟩ := Option.map_eq_some_iff.mp (show (intsOf r).map (i :: ·) = some ns from h)
    rw [intsOf_eq h1]; rfl
  | .non :: _, _, h => by cases h
  | .bl _ :: _, _, h => by cases h
  | .str _ :: _, _, h => by cases h
  | .tup _ :: _, _, h => by cases h
  | .lst _ :: _, _, h => by cases h
  | .dct _ :: _, _, h => by cases h
  | .ins _ _ :: _, _, h => by cases h
  | .scr _ :: _, _, h => by cases h
theorem strsOf_eq : ∀ {ds : List D} {ns : List (List Nat)}, strsOf ds = some ns → ds = ns.map .str
  | [], _, h => by cases h; rfl
  | .str i :: r, ns, h => by
    obtain ⟨ms, h1, rfl⟩ := Option.map_eq_some_iff.mp (show (strsOf r).map (i :: ·) = some ns from h)
    rw [strsOf_eq h1]; rfl
  | .non :: _, _, h => by cases h
  | .bl _ :: _, _, h => by cases h
  | .int _ :: _, _, h => by cases h
  | .tup _ :: _, _, h => by cases h
  | .lst _ :: _, _, h => by cases h
  | .dct _ :: _, _, h => by cases h
  | .ins _ _ :: _, _, h => by cases h
  | .scr _ :: _, _, h => by cases h
theorem blsOf_eq : ∀ {ds : List D} {ns : List Bool}, blsOf ds = some ns → ds = ns.map .bl
  | [], _, h => by cases h; rfl
  | .bl i :: r, ns, h => by
    obtain ⟨ms, h1, rfl⟩ := Option.map_eq_some_iff.mp (show (blsOf r).map (i :: ·) = some ns from h)
    rw [blsOf_eq h1]; rfl
  | .non :: _, _, h => by cases h
  | .str _ :: _, _, h => by cases h
  | .int _ :: _, _, h => by cases h
  | .tup _ :: _, _, h => by cases h
  | .lst _ :: _, _, h => by cases h
  | .dct _ :: _, _, h => by cases h
  | .ins _ _ :: _, _, h => by cases h
  | .scr _ :: _, _, h => by cases h
theorem intsOf_map (ns : List Int) : intsOf (ns.map .int) = some ns := by
  induction ns with
  | nil => rfl
  | cons n ns ih => show (intsOf (ns.map .int)).map (n :: ·) = _; rw [ih]; rfl
theorem strsOf_map (ns : List (List Nat)) : strsOf (ns.map .str) = some ns := by
  induction ns with
  | nil => rfl
  | cons n ns ih => show (strsOf (ns.map .str)).map (n :: ·) = _; rw [ih]; rfl
theorem blsOf_map (ns : List Bool) : blsOf (ns.map .bl) = some ns := by
  induction ns with
  | nil => rfl
  | cons n ns ih => show (blsOf (ns.map .bl)).map (n :: ·) = _; rw [ih]; rfl
section
variable {K : PySem.W.Frag} {G : Nat → Addr} {F : Hp}
theorem repL_ints : ∀ {ns : List Int} {vs : List V}, RepL K G F vs (ns.map .int) → vs = ns.map V.int
  | [], _, .nil => rfl
  | n :: ns, _, .cons r t => by cases r; rw [repL_ints t]; rfl
theorem repL_strs : ∀ {ns : List (List Nat)} {vs : List V}, RepL K G F vs (ns.map .str) → vs = ns.map fun s => V.str ⟨s.toArray⟩
  | [], _, .nil => rfl
  | n :: ns, _, .cons r t => by cases r; rw [repL_strs t]; rfl
theorem repL_bls : ∀ {ns : List Bool} {vs : List V}, RepL K G F vs (ns.map .bl) → vs = ns.map V.bl
  | [], _, .nil => rfl
  | n :: ns, _, .cons r t => by cases r; rw [repL_bls t]; rfl
theorem rep_ints' : ∀ ns : List Int, RepL K G F (ns.map V.int) (ns.map .int)
  | [] => .nil
  | n :: ns => .cons (.int n) (rep_ints' ns)
theorem rep_strs' : ∀ ns : List (List Nat), RepL K G F (ns.map fun s => V.str ⟨s.toArray⟩) (ns.map .str)
  | [] => .nil
  | n :: ns => .cons (.str n) (rep_strs' ns)
end
def dLen : List D → Option D
  | [.str s] => if s.length ≤ 16777216 then some (.int s.length) else none
  | [.tup xs] => some (.int xs.length)
  | [.lst xs] => some (.int xs.length)
  | [.scr xs] => some (.int xs.length)
  | [.dct xs] => some (.int xs.length)
  | _ => none
section
variable {G : Nat → Addr} {X : Cx} {w : Wd}
theorem callS_len : CallS X G (.builtin "len") dLen := by
  intro pins s σ H xs us Q I r ⟨w, ds, z, eH, ok, rb, eg, gv⟩
  subst eH
  match ds, rb, eg with
  | [.str t], .cons r1 .nil, eg =>
    have eg : (if t.length ≤ 16777216 then some (D.int t.length) else none) = some z := eg
    by_cases hl : t.length ≤ 16777216
    · rw [if_pos hl] at eg; cases eg
      rw [repB_str r1] at r
      refine call_len_str pins s σ _ _ us Q I r ⟨_, rfl, by rw [str_len, sizeLine_eq]; exact hl, ?_⟩
      rw [str_len]; exact giv_here ok gv (.int _)
    · rw [if_neg hl] at eg; cases eg
  | [.tup xs], .cons r1 .nil, eg =>
    cases eg
    obtain ⟨p, vs, rfl, q, rr⟩ := repB_tup r1
    exact call_len_seq pins s σ _ _ us Q I r ⟨p, vs, rfl, .inr (SqT.same ok.sub q), by rw [rr.length]; exact giv_here ok gv (.int _)⟩
  | [.lst xs], .cons r1 .nil, eg =>
    cases eg
    obtain ⟨p, vs, rfl, q, rr⟩ := repB_lst ok r1
    exact call_len_seq pins s σ _ _ us Q I r ⟨p, vs, rfl, .inl (.inl (.inl q)), by rw [rr.length]; exact giv_here ok gv (.int _)⟩
  | [.scr xs], .cons r1 .nil, eg =>
    cases eg
    obtain ⟨p, rfl, q⟩ := repB_scr ok r1
    exact call_len_seq pins s σ _ _ us Q I r ⟨p, _, rfl, .inl q, by rw [List.length_map]; exact giv_here ok gv (.int _)⟩
  | [.dct ks], .cons r1 .nil, eg =>
    cases eg
    obtain ⟨p, vs, rfl, hd, rk⟩ := repB_dct ok r1
    rw [Vals.ref1 r]
    exact d_len I hd fun t s' I' => ⟨.int vs.length, w.H, I', ⟨t, rfl⟩, by rw [rk.length]; exact giv_here ok gv (.int _)⟩
def foldMax (n : Int) (ns : List Int) : Int := ns.foldl (fun a b => if b > a then b else a) n
def foldMin (n : Int) (ns : List Int) : Int := ns.foldl (fun a b => if b < a then b else a) n
def foldMinS (n : List Nat) (ns : List (List Nat)) : List Nat := ns.foldl (fun a b => if b < a then b else a) n
def seqD : D → Option (List D)
  | .lst xs => some xs
  | .tup xs => some xs
  | _ => none
def lstD : D → Option (List D)
  | .lst xs => some xs
  | _ => none
def dMax : List D → Option D
  | [.int i, .int j] => some (.int (if j > i then j else i))
  | [d] => (lstD d).bind fun xs => match intsOf xs with
    | some (n :: ns) => some (.int (foldMax n ns))
    | _ => none
  | _ => none
def dMin : List D → Option D
  | [.int i, .int j] => some (.int (if j < i then j else i))
  | [d] => (lstD d).bind fun xs => match intsOf xs with
    | some (n :: ns) => some (.int (foldMin n ns))
    | _ => (match strsOf xs with
      | some (n :: ns) => some (.str (foldMinS n ns))
      | _ => none)
  | _ => none
def dSum : List D → Option D
  | [d] => (seqD d).bind fun xs => (intsOf xs).map fun ns => .int ns.sum
  | _ => none
theorem foldMax_spec (n : Int) (ns : List Int) : foldMax n ns ∈ n :: ns ∧ ∀ y ∈ n :: ns, y ≤ foldMax n ns := by
  induction ns generalizing n with
  | nil => simp [foldMax]
  | cons m ns ih =>
    have e : foldMax n (m :: ns) = foldMax (if m > n then m else n) ns := rfl
    rw [e]
    obtain ⟨h1, h2⟩ := ih (if m > n then m else n)
    have h3 := h2 _ List.mem_cons_self
    have h4 : n ≤ (if m > n then m else n) ∧ m ≤ (if m > n then m else n) := by split <;> omega
    refine ⟨?_, fun y hy => ?_⟩
    · rcases List.mem_cons.mp h1 with h | h
      · rw [h]; split <;> simp
      · exact List.mem_cons_of_mem _ (List.mem_cons_of_mem _ h)
    · rcases List.mem_cons.mp hy with h | hy
      · rw [h]; exact Int.le_trans h4.1 h3
      · rcases List.mem_cons.mp hy with h | hy
        · rw [h]; exact Int.le_trans h4.2 h3
        · exact h2 y (List.mem_cons_of_mem _ hy)
theorem foldMin_spec (n : Int) (ns : List Int) : foldMin n ns ∈ n :: ns ∧ ∀ y ∈ n :: ns, foldMin n ns ≤ y := by
  induction ns generalizing n with
  | nil => simp [foldMin]
  | cons m ns ih =>
    have e : foldMin n (m :: ns) = foldMin (if m < n then m else n) ns := rfl
    rw [e]
    obtain ⟨h1, h2⟩ := ih (if m < n then m else n)
    have h3 := h2 _ List.mem_cons_self
    have h4 : (if m < n then m else n) ≤ n ∧ (if m < n then m else n) ≤ m := by split <;> omega
    refine ⟨?_, fun y hy => ?_⟩
    · rcases List.mem_cons.mp h1 with h | h
      · rw [h]; split <;> simp
      · exact List.mem_cons_of_mem _ (List.mem_cons_of_mem _ h)
    · rcases List.mem_cons.mp hy with h | hy
      · rw [h]; exact Int.le_trans h3 h4.1
      · rcases List.mem_cons.mp hy with h | hy
        · rw [h]; exact Int.le_trans h3 h4.2
        · exact h2 y (List.mem_cons_of_mem _ hy)
theorem minD_strs (n : List Nat) (ns : List (List Nat)) : PySem.W.minD (.str ⟨n.toArray⟩) (ns.map fun s => .str ⟨s.toArray⟩) = .str ⟨(foldMinS n ns).toArray⟩ := by
  unfold PySem.W.minD
  induction ns generalizing n with
  | nil => rfl
  | cons k r ih =>
    rw [List.map_cons, List.foldl_cons, PySem.W.dataLt_str]
    have e : foldMinS n (k :: r) = foldMinS (if k < n then k else n) r := rfl
    rw [e]
    by_cases h : k < n
    · rw [if_pos h, ← ih k]; simp [h]
    · rw [if_neg h, ← ih n]; simp [h]
theorem lstD_eq {d : D} {xs : List D} (h : lstD d = some xs) : d = .lst xs := by
  cases d <;> cases h; rfl
theorem dMax_cases {ds : List D} {z : D} (h : dMax ds = some z) : (∃ i j, ds = [.int i, .int j] ∧ z = .int (if j > i then j else i)) ∨ ∃ n ns, ds = [.lst ((n :: ns).map .int)] ∧ z = .int (foldMax n ns) := by
  unfold dMax at h
  split at h
  · cases h; exact .inl ⟨_, _, rfl, rfl⟩
  · obtain ⟨xs, e1, e2⟩ := Option.bind_eq_some_iff.mp h
    split at e2
    · rename_i n ns e3
      cases e2
      exact .inr ⟨n, ns, by rw [lstD_eq e1, intsOf_eq e3], rfl⟩
    · cases e2
  · cases h
theorem dMin_cases {ds : List D} {z : D} (h : dMin ds = some z) : (∃ i j, ds = [.int i, .int j] ∧ z = .int (if j < i then j else i)) ∨ (∃ n ns, ds = [.lst ((n :: ns).map .int)] ∧ z = .int (foldMin n ns)) ∨
    ∃ n ns, ds = [.lst ((n :: ns).map .str)] ∧ z = .str (foldMinS n ns) := by
  unfold dMin at h
  split at h
  · cases h; exact .inl ⟨_, _, rfl, rfl⟩
  · obtain ⟨xs, e1, e2⟩ := Option.bind_eq_some_iff.mp h
    split at e2
    · rename_i n ns e3
      cases e2
      exact .inr (.inl ⟨n, ns, by rw [lstD_eq e1, intsOf_eq e3], rfl⟩)
    · split at e2
      · rename_i n ns e3
        cases e2
        exact .inr (.inr ⟨n, ns, by rw [lstD_eq e1, strsOf_eq e3], rfl⟩)
      · cases e2
  · cases h
theorem rep1 {vs : List V} {d : D} (h : RepBL X.K G w vs [d]) : ∃ v, vs = [v] ∧ RepB X.K G w v d := by
  cases h with | cons r t => cases t; exact ⟨_, rfl, r⟩
theorem rep2 {vs : List V} {d e : D} (h : RepBL X.K G w vs [d, e]) : ∃ v u, vs = [v, u] ∧ RepB X.K G w v d ∧ RepB X.K G w u e := by
  cases h with | cons r t => cases t with | cons r2 t => cases t; exact ⟨_, _, rfl, r, r2⟩
theorem callS_max (hc : X.calm = true) : CallS X G (.builtin "max") dMax := by
  intro pins s σ H xs us Q I r ⟨w, ds, z, eH, ok, rb, eg, gv⟩
  subst eH
  rcases dMax_cases eg with ⟨i, j, rfl, rfl⟩ | ⟨n, ns, rfl, rfl⟩
  · obtain ⟨v, u, rfl, r1, r2⟩ := rep2 rb
    rw [repB_int r1, repB_int r2] at r
    exact call_max2 hc pins s σ _ _ us Q I r ⟨i, j, rfl, giv_here ok gv (.int _)⟩
  · obtain ⟨v, rfl, r1⟩ := rep1 rb
    obtain ⟨p, vs, rfl, q, rr⟩ := repB_lst ok r1
    obtain rfl := repL_ints rr
    obtain ⟨h1, h2⟩ := foldMax_spec n ns
    refine cr_max hc pins s σ _ _ us Q I r ⟨p, n :: ns, rfl, .inl (.inl q), by simp, fun m hm hle => ?_⟩
    have e : m = foldMax n ns := Int.le_antisymm (h2 m hm) (hle _ h1)
    rw [e]; exact giv_here ok gv (.int _)
theorem alikeAll_strs (ns : List (List Nat)) : PySem.W.AlikeAll (ns.map fun s => PyData.str ⟨s.toArray⟩) := by
  refine ⟨fun x hx y hy => ?_, fun x hx => ?_⟩
  · obtain ⟨a, _, rfl⟩ := List.mem_map.mp hx
    obtain ⟨b, _, rfl⟩ := List.mem_map.mp hy
    rfl
  · obtain ⟨a, _, rfl⟩ := List.mem_map.mp hx
    intro z; cases z
theorem depthAll_strs : ∀ (ns : List (List Nat)), PyData.depthAll (ns.map fun s => PyData.str ⟨s.toArray⟩) = 0
  | [] => rfl
  | n :: ns => by
    show max (PyData.str _).depth (PyData.depthAll (ns.map _)) = 0
    rw [depthAll_strs ns]; rfl
theorem readsAll_strs {h : Heap} : ∀ {ns : List (List Nat)} {us : List Value}, Vals (ns.map fun s => V.str ⟨s.toArray⟩) us → ReadsAll h us (ns.map fun s => PyData.str ⟨s.toArray⟩) []
  | [], _, r => by cases r; exact .nil
  | n :: ns, _, r => by
    cases r with
    | cons r t =>
      obtain ⟨tk, rfl⟩ := r
      exact ReadsAll.cons (as := []) (bs := []) (.str _ _) (readsAll_strs t)
theorem callS_min (hc : X.calm = true) (hu : X.A.units + 64 < cLine) : CallS X G (.builtin "min") dMin := by
  intro pins s σ H xs us Q I r ⟨w, ds, z, eH, ok, rb, eg, gv⟩
  subst eH
  rcases dMin_cases eg with ⟨i, j, rfl, rfl⟩ | ⟨n, ns, rfl, rfl⟩ | ⟨n, ns, rfl, rfl⟩
  · obtain ⟨v, u, rfl, r1, r2⟩ := rep2 rb
    rw [repB_int r1, repB_int r2] at r
    exact call_min2 hc pins s σ _ _ us Q I r ⟨i, j, rfl, giv_here ok gv (.int _)⟩
  · obtain ⟨v, rfl, r1⟩ := rep1 rb
    obtain ⟨p, vs, rfl, q, rr⟩ := repB_lst ok r1
    obtain rfl := repL_ints rr
    obtain ⟨h1, h2⟩ := foldMin_spec n ns
    refine cr_min hc pins s σ _ _ us Q I r ⟨p, n :: ns, rfl, .inl (.inl q), by simp, fun m hm hle => ?_⟩
    have e : m = foldMin n ns := Int.le_antisymm (hle _ h1) (h2 m hm)
    rw [e]; exact giv_here ok gv (.int _)
  · obtain ⟨v, rfl, r1⟩ := rep1 rb
    obtain ⟨p, vs, rfl, q, rr⟩ := repB_lst ok r1
    obtain rfl := repL_strs rr
    rw [Vals.ref1 r]
    obtain ⟨its, rv, hl, _⟩ := I.list (a := p) (xs := (n :: ns).map fun s => V.str ⟨s.toArray⟩) (.inl (.inl q))
    refine PySem.W.min_list_data (I.ok.hd hc) hl.isList (x := PyData.str ⟨n.toArray⟩) (xs := ns.map fun s : List Nat => PyData.str ⟨s.toArray⟩) (as := []) (by simpa using readsAll_strs (ns := n :: ns) rv) (alikeAll_strs (n :: ns)) (by
      have := depthAll_strs (n :: ns)
      rw [List.map_cons] at this
      rw [this]; omega) fun i v h' tk bs hv hr hk => ?_
    rw [minD_strs] at hr
    cases hr with
    | str y t => exact ⟨.str _, w.H, I.kept hk, ⟨t, rfl⟩, giv_here ok gv (.str _)⟩
theorem callS_sum (hc : X.calm = true) : CallS X G (.builtin "sum") dSum := by
  intro pins s σ H xs us Q I r ⟨w, ds, z, eH, ok, rb, eg, gv⟩
  subst eH
  unfold dSum at eg
  split at eg
  · rename_i d
    obtain ⟨xs, e1, e2⟩ := Option.bind_eq_some_iff.mp eg
    obtain ⟨ns, e3, rfl⟩ := Option.map_eq_some_iff.mp e2
    obtain rfl := intsOf_eq e3
    obtain ⟨v, rfl, r1⟩ := rep1 rb
    cases d with
    | lst xs =>
      cases e1
      obtain ⟨p, vs, rfl, q, rr⟩ := repB_lst ok r1
      obtain rfl := repL_ints rr
      exact cr_sum hc pins s σ _ _ us Q I r ⟨p, ns, rfl, .inl (.inl q), giv_here ok gv (.int _)⟩
    | tup xs =>
      cases e1
      obtain ⟨p, vs, rfl, q, rr⟩ := repB_tup r1
      obtain rfl := repL_ints rr
      rw [Vals.ref1 r]
      obtain ⟨its, rv, hl, _⟩ := I.tuple (SqT.same ok.sub q)
      have hi := rv.ints
      obtain ⟨ys, hx⟩ := hi.allInts.items
      have hn : numsOf its.toArray.toList = ns := by rw [show its.toArray.toList = its from rfl, hi.numsOf]
      rw [hx] at hl hn
      rw [nums_intItems] at hn
      refine PySem.W.ktm_sumG (I.ok.hd hc) hl fun h' tk t' hk => ⟨.int ns.sum, w.H, I.kept hk, ⟨t', ?_⟩, giv_here ok gv (.int _)⟩
      rw [preSum_eq, List.take_of_length_le (by simp), hn]
    | _ => cases e1
  · cases eg
def dAll : List D → Option D
  | [d] => (lstD d).bind fun xs => (blsOf xs).map fun bs => .bl (bs.all id)
  | _ => none
def dAny : List D → Option D
  | [d] => (lstD d).bind fun xs => (blsOf xs).map fun bs => .bl (bs.any id)
  | _ => none
theorem callS_all (hc : X.calm = true) : CallS X G (.builtin "all") dAll := by
  intro pins s σ H xs us Q I r ⟨w, ds, z, eH, ok, rb, eg, gv⟩
  subst eH
  unfold dAll at eg
  split at eg
  · obtain ⟨xs, e1, e2⟩ := Option.bind_eq_some_iff.mp eg
    obtain ⟨ns, e3, rfl⟩ := Option.map_eq_some_iff.mp e2
    obtain rfl := blsOf_eq e3
    obtain rfl := lstD_eq e1
    obtain ⟨v, rfl, r1⟩ := rep1 rb
    obtain ⟨p, vs, rfl, q, rr⟩ := repB_lst ok r1
    obtain rfl := repL_bls rr
    exact cr_all hc pins s σ _ _ us Q I r ⟨p, ns, rfl, .inl (.inl q), giv_here ok gv (.bl _)⟩
  · cases eg
theorem callS_any (hc : X.calm = true) : CallS X G (.builtin "any") dAny := by
  intro pins s σ H xs us Q I r ⟨w, ds, z, eH, ok, rb, eg, gv⟩
  subst eH
  unfold dAny at eg
  split at eg
  · obtain ⟨xs, e1, e2⟩ := Option.bind_eq_some_iff.mp eg
    obtain ⟨ns, e3, rfl⟩ := Option.map_eq_some_iff.mp e2
    obtain rfl := blsOf_eq e3
    obtain rfl := lstD_eq e1
    obtain ⟨v, rfl, r1⟩ := rep1 rb
    obtain ⟨p, vs, rfl, q, rr⟩ := repB_lst ok r1
    obtain rfl := repL_bls rr
    exact cr_any hc pins s σ _ _ us Q I r ⟨p, ns, rfl, .inl (.inl q), giv_here ok gv (.bl _)⟩
  · cases eg
def dInt : List D → Option D
  | [.str s] => if s.length ≤ 640 then (PySem.intText? ⟨s.toArray⟩).map .int else none
  | [.int i] => some (.int i)
  | _ => none
def dStr : List D → Option D
  | [.int i] => if i.natAbs < 2 ^ 64 then some (.str (PySem.Str.ofString (toString i)).cps.toList) else none
  | _ => none
theorem callS_int : CallS X G (.type "int") dInt := by
  intro pins s σ H xs us Q I r ⟨w, ds, z, eH, ok, rb, eg, gv⟩
  subst eH
  unfold dInt at eg
  split at eg
  · rename_i t
    by_cases hl : t.length ≤ 640
    · rw [if_pos hl] at eg
      obtain ⟨n, e1, rfl⟩ := Option.map_eq_some_iff.mp eg
      obtain ⟨v, rfl, r1⟩ := rep1 rb
      rw [repB_str r1] at r
      exact call_int_str pins s σ _ _ us Q I r ⟨_, n, rfl, e1, by rw [str_len]; exact hl, giv_here ok gv (.int _)⟩
    · rw [if_neg hl] at eg; cases eg
  · rename_i i
    cases eg
    obtain ⟨v, rfl, r1⟩ := rep1 rb
    rw [repB_int r1] at r
    exact call_int1 pins s σ _ _ us Q I r (.inl ⟨i, rfl, giv_here ok gv (.int _)⟩)
  · cases eg
theorem callS_str : CallS X G (.type "str") dStr := by
  intro pins s σ H xs us Q I r ⟨w, ds, z, eH, ok, rb, eg, gv⟩
  subst eH
  unfold dStr at eg
  split at eg
  · rename_i i
    by_cases hl : i.natAbs < 2 ^ 64
    · rw [if_pos hl] at eg
      cases eg
      obtain ⟨v, rfl, r1⟩ := rep1 rb
      rw [repB_int r1] at r
      refine call_str_int pins s σ _ _ us Q I r ⟨i, rfl, ?_, ?_⟩
      · have h1 : i.natAbs.log2 < 64 := by
          by_cases h0 : i.natAbs = 0
          · rw [h0]; decide
          · exact (Nat.log2_lt h0).mpr hl
        omega
      · have e : (toString i : PySem.Str) = ⟨(PySem.Str.ofString (toString i)).cps.toList.toArray⟩ := by simp
        rw [e]
        exact giv_here ok gv (.str _)
    · rw [if_neg hl] at eg; cases eg
  · cases eg
theorem givV_new {w : Wd} {z : List D} {Q : VK} (ok : w.Ok) (g : GivV X.K G w (.ml z) Q) {p : Addr} {vs : List V} (hp : w.H p = none) (r : RepL X.K G w.F vs z) : Q (.ref p) (upd w.H p (.lst vs)) :=
  g (.ref p) (w.new p (.lst vs)) (Wd.new_grw hp) (Wd.new_ok ok hp) ⟨p, vs, rfl, hp, ok.k_oth hp, upd_same, r⟩
def dList : List D → Option Sl
  | [.lst xs] => some (.ml xs)
  | [.tup xs] => some (.ml xs)
  | [.dct ks] => some (.ml (ks.map fun kv => kD kv.1))
  | _ => none
def dTuple : List D → Option D
  | [.lst xs] => some (.tup xs)
  | [.tup xs] => some (.tup xs)
  | _ => none
theorem rep_keys {K : PySem.W.Frag} {F : Hp} : ∀ {vs : List (Key × V)} {ks : List (DK × D)}, RepK K G F vs ks → RepL K G F (vs.map fun kv => kV kv.1) (ks.map fun kv => kD kv.1)
  | _, _, .nil => .nil
  | _, _, .cons r t => .cons (rep_kD _) (rep_keys t)
theorem list_dict {pins : List (Addr × Obj)} {s : Shared} {σ : L2.St} {H : Hp} {p : Addr} {kvs : List (Key × V)} {Q : VK} (hc : X.calm = true) (I : Inv X pins σ H s) (hk : Rd H p (.dK kvs)) (q : ∀ a, H a = none → Q (.ref a) (upd H a (.lst (kvs.map fun kv => kV kv.1)))) :
    wpAny (model X.prog X.w) X.A (call (.type "list") [.ref p]) (EP X pins σ Q) X.xe s := by
  obtain ⟨z, lo, vs, rk, hd⟩ := dk_rd I.hok hk
  obtain ⟨ep, hat⟩ := hd.dictAt
  have hl : kvs.length = vs.length := Paired.length rk
  refine PySem.W.kdl_call (PySem.W.kdl_dict (knd := mixKind X.prog X.w) (kvs := vs) (ep := ep) lo) (I.ok.hd hc) hat (by rw [← hl]; exact z) fun h' tk acc' c' hkeep hS hacc => ?_
  refine ⟨.ref s.heap.objs.size, upd H s.heap.objs.size (.lst (kvs.map fun kv => kV kv.1)), I.laid hkeep (Nat.le_refl _) (show ObjOk X.prog X.w _ _ _ (.lst (kvs.map fun kv => kV kv.1)) from ⟨?_, acc'.toList, c', ?_, ?_⟩), rfl, q _ (I.hok.fresh (Nat.le_refl _))⟩
  · rw [List.length_map]; exact z
  · have el : acc'.toList.length = acc'.size := by simp
    refine vals_of_at (by rw [List.length_map, el, hacc.1, hl]) fun j x w h1 h2 => ?_
    obtain ⟨k, y, hky, hi⟩ := hacc.2 j w (by rw [← Array.getElem?_toList]; exact h2)
    have e1 : (kvs.map (·.1))[j]? = some k := by
      rw [KV.keys rk, List.getElem?_map, hky] <;> rfl
    have e2 : (kvs.map fun kv => kV kv.1)[j]? = some (kV k) := by
      have e3 : (kvs.map fun kv => kV kv.1) = (kvs.map (·.1)).map kV := by rw [List.map_map] <;> rfl
      rw [e3, List.getElem?_map, e1] <;> rfl
    rw [e2] at h1
    cases h1
    exact keyIs_rel hi
  · rw [Array.toArray_toList]; exact hS
theorem callV_list (hc : X.calm = true) : CallV X G (.type "list") dList := by
  intro pins s σ H xs us Q I r ⟨w, ds, z, eH, ok, rb, eg, gv⟩
  subst eH
  unfold dList at eg
  split at eg
  · cases eg
    obtain ⟨v, rfl, r1⟩ := rep1 rb
    obtain ⟨p, vs, rfl, q, rr⟩ := repB_lst ok r1
    exact call_list_of pins s σ _ _ us Q I r ⟨p, vs, rfl, .inl (.inl (.inl q)), fun l hl => givV_new ok gv hl rr⟩
  · cases eg
    obtain ⟨v, rfl, r1⟩ := rep1 rb
    obtain ⟨p, vs, rfl, q, rr⟩ := repB_tup r1
    exact call_list_of pins s σ _ _ us Q I r ⟨p, vs, rfl, .inr (SqT.same ok.sub q), fun l hl => givV_new ok gv hl rr⟩
  · cases eg
    obtain ⟨v, rfl, r1⟩ := rep1 rb
    obtain ⟨p, vs, rfl, hd, rk⟩ := repB_dct ok r1
    rw [Vals.ref1 r]
    exact list_dict hc I hd fun a ha => givV_new ok gv ha (rep_keys rk)
  · cases eg
theorem callS_tuple : CallS X G (.type "tuple") dTuple := by
  intro pins s σ H xs us Q I r ⟨w, ds, z, eH, ok, rb, eg, gv⟩
  subst eH
  unfold dTuple at eg
  split at eg
  · cases eg
    obtain ⟨v, rfl, r1⟩ := rep1 rb
    obtain ⟨p, vs, rfl, q, rr⟩ := repB_lst ok r1
    exact call_tuple_of pins s σ _ _ us Q I r ⟨p, vs, rfl, .inl ⟨.inl (.inl q), fun l hl => giv_new ok gv hl (.tup (.inl (.inl upd_same)) (rr.mono (same_upd (ok.f_none hl))))⟩⟩
  · cases eg
    obtain ⟨v, rfl, r1⟩ := rep1 rb
    obtain ⟨p, vs, rfl, q, rr⟩ := repB_tup r1
    exact call_tuple_of pins s σ _ _ us Q I r ⟨p, vs, rfl, .inr ⟨SqT.same ok.sub q, giv_here ok gv (.tup q rr)⟩⟩
  · cases eg
end
end Rz
namespace Rz
open PySem PySem.Spec PyProof.Rows L2
section
variable {prog : Program} {w : World} {A : Around} {E : Value → Shared → Prop} {s : Shared}
theorem collect_tup {l : Addr} {vs : List Value} {Q : List Value → Shared → Prop} (hl : s.heap.IsTuple l vs.toArray)
    (h : Q vs { s with heap := (s.heap.push (seqObj "list" #[] 0)).update s.heap.objs.size (Obj.mapSeq (· ++ vs.toArray)) }) (hsz : vs.length ≤ sizeLine) :
    wpAny (model prog w) A (collect (.ref l)) Q E s := by
  obtain ⟨o, ho, hc, n, hd⟩ := id hl
  unfold collect
  refine wpAny_bind (wpAny_runValue (codeAny_builtin entry_proto_collect' ?_))
  show wpAny _ _ (do again (.builtin "list.__iadd__" ⟨[← newList [], .ref l], []⟩)) _ _ s
  refine wpAny_bind (wpAny_newList (wpAny_pure ⟨Code.quiet_builtin _ (by decide +kernel), codeAny_builtin entry_list_iadd' ?_⟩))
  show wpAny _ _ (Builtin.List.listExtendWith (.ref s.heap.objs.size) (.ref l) (.ref s.heap.objs.size)) _ _ { s with heap := s.heap.push (seqObj "list" #[] 0) }
  unfold Builtin.List.listExtendWith
  have ho' : (s.heap.push (seqObj "list" #[] 0)).get? l = some o := Heap.get?_push_of_some _ ho
  refine wpAny_bind (wpAny_typeOf (T := "tuple") ⟨o, ho', hc⟩ ?_)
  rw [if_pos (by
    have e : (Value.type "tuple" == Value.type "tuple") = true := by rfl
    rw [e]; simp)]
  refine wpAny_bind (listItems_at ho' hd ?_)
  refine wpAny_bind (listItems_at (xs := #[]) (n := 0) (Heap.get?_push_size _ rfl) rfl ?_)
  rw [if_neg (by simp)]
  refine wpAny_bind (listUpdate_at (xs := #[]) (n := 0) (Heap.get?_push_size _ rfl) rfl ?_ (Nat.zero_le _) (by show (#[] ++ vs.toArray).size ≤ sizeLine + 1; simp only [Array.size_append, List.size_toArray, List.length_nil]; omega))
  refine wpAny_pure ?_
  show wpAny (model prog w) A (do
      let o ← load s.heap.objs.size
      match o.data with
      | .seq xs _ => pure xs.toList
      | _ => unsupported "internal:collect") Q E { s with heap := (s.heap.push (seqObj "list" #[] 0)).update s.heap.objs.size (Obj.mapSeq (· ++ vs.toArray)) }
  refine wpAny_bind (wpAny_load (get?_update_seq (Heap.get?_push_size _ rfl) _) ?_)
  show wpAny _ _ (pure ((#[] : Array Value) ++ vs.toArray).toList) Q E _
  rw [show ((#[] : Array Value) ++ vs.toArray).toList = vs by simp]
  exact wpAny_pure h
theorem sorted_of_sortT {l : Addr} {vs : List Value} {kw : List (Str × Value)} {Q : Value → Shared → Prop} (hl : s.heap.IsTuple l vs.toArray) (hL : vs.length ≤ sizeLine) (ha1 : argsOk "sorted" ⟨[.ref l], kw⟩) (ha2 : ∀ x, argsOk "list.sort" ⟨[.ref x], kw⟩)
    (body : ∀ E' : Value → Shared → Prop, wpAny (model prog w) A.in1.in1 (Builtin.«list.sort» ⟨[.ref (s.heap.objs.size + 1)], kw⟩) (fun f s' => f = .done (.ret .none) ∧ Q (.ref (s.heap.objs.size + 1)) s') E' { s with heap := PySem.W.copyHeap s.heap vs }) :
    wpAny (model prog w) A (call (.builtin "sorted") [.ref l] kw) Q E s := by
  refine call_function_entry_kw kind_sorted plain_sorted entry_sorted ha1 ?_
  unfold Builtin.«sorted»
  refine wpAny_bind (m := checkCount "sorted" 1 1 _) (wpAny_pure ?_)
  refine wpAny_bind (collect_tup hl ?_ hL)
  refine wpAny_bind (wpAny_newList ?_ hL)
  have hsz : ((s.heap.push (seqObj "list" #[] 0)).update s.heap.objs.size (Obj.mapSeq (· ++ vs.toArray))).objs.size = s.heap.objs.size + 1 := by
    rw [Heap.size_update, size_push']
  show wpAny _ _ _ _ _ { s with heap := PySem.W.copyHeap s.heap vs }
  rw [hsz]
  refine wpAny_bind (wpAny_holding (wpAny_call_entry_kw slot_list_sort ⟨_, PySem.W.copyHeap_at s.heap vs, rfl⟩ entry_list_sort ?body (ha2 _)))
  case body =>
    show wpAny (model prog w) A.in1.in1 (Builtin.«list.sort» ⟨[.ref (s.heap.objs.size + 1)], kw⟩) _ _ _
    refine wpAny_mono (body _) (fun f s' hf => ?_) fun _ _ e => e
    obtain ⟨rfl, hq⟩ := hf
    exact ⟨_, rfl, wpAny_pure ⟨_, rfl, hq⟩⟩
variable {β : Type} {vs : List Value} {bs : List β} {enc : β → PyData} {R : Value → β → Prop}
theorem sorted_dataT {l : Addr} {Q : Value → Shared → Prop} (hl : s.heap.IsTuple l vs.toArray) (e : PySem.W.EachIs R vs bs) (er : PySem.W.EachIs (fun v b => ∃ as, Reads s.heap v (enc b) as) vs bs) (hal : PySem.W.AllAlike (bs.map enc)) (hk : PySem.W.Sortable (bs.map enc)) (hL : bs.length ≤ sizeLine)
    (hu : ∀ b, b ∈ bs → A.units + 2 + (enc b).depth < cLine) (h : ∀ out, out.length = bs.length → PySem.W.EachIs R out (bs.mergeSort (PySem.W.dataLe false enc)) → Q (.ref (s.heap.objs.size + 1)) { s with heap := sortedAll s.heap vs (List.toArray out) }) :
    wpAny (model prog w) A (call (.builtin "sorted") [.ref l]) Q E s := by
  have er' : PySem.W.EachIs (fun v b => ∃ as, Reads (PySem.W.sortingHeap (PySem.W.copyHeap s.heap vs) (s.heap.objs.size + 1) vs) v (enc b) as) vs bs := er.mono fun _ _ ⟨as, r⟩ => ⟨as, PyProof.Rows.Reads.keeps (fun _ _ => PySem.W.sorting_copy_old) r⟩
  have S := PySem.W.SortsAt.data (prog := prog) (w := w) (A := A.in1.in1) (s := { s with heap := PySem.W.sortingHeap (PySem.W.copyHeap s.heap vs) (s.heap.objs.size + 1) vs }) (PySem.W.each_map (R := fun v d => ∃ as, Reads (PySem.W.sortingHeap (PySem.W.copyHeap s.heap vs) (s.heap.objs.size + 1) vs) v d as) enc er') hal hk (PySem.W.bound_map hu)
  have hL' : vs.length ≤ sizeLine := by rw [e.length]; exact hL
  exact sorted_of_sortT hl hL' (args_sorted1 _) (fun _ => args_list_sort _) fun _ => PySem.W.list_sort_vals (s := { s with heap := PySem.W.copyHeap s.heap vs }) (PySem.W.copyHeap_at s.heap vs) S hL' ⟨rfl, h _ (by rw [PySem.W.sortVals_length false rfl]; exact e.length) (PySem.W.sortVals_data false e er' hal)⟩
end
def leD (a b : D) : Bool := PySem.W.dataLe false D.py a b
def alikeB (xs : List D) : Bool := xs.all fun a => xs.all fun b => PySem.W.alike a.py b.py
def sortB (xs : List D) : Bool := (xs.all fun d => match d with
  | .tup (_ :: _) => true
  | _ => false) || (xs.all fun d => match d with
  | .non => false
  | .tup _ => false
  | _ => true)
def sortOk (xs : List D) : Bool := plainL xs && decide (depL xs ≤ 32) && alikeB xs && sortB xs
def skD : D → Option (List D)
  | .dct ks => some (ks.map fun kv => kD kv.1)
  | d => seqD d
def dSorted : List D → Option Sl
  | [d] => (skD d).bind fun xs => if sortOk xs then some (.ml (xs.mergeSort leD)) else none
  | _ => none
section
variable {K : PySem.W.Frag} {G : Nat → Addr} {F : Hp}
theorem plainL_mem {xs : List D} (h : plainL xs = true) {d : D} (hd : d ∈ xs) : d.plain = true := by
  induction xs with
  | nil => cases hd
  | cons x xs ih =>
    have h' := Bool.and_eq_true_iff.mp (show (_ && _) = true from h)
    rcases List.mem_cons.mp hd with rfl | hd
    · exact h'.1
    · exact ih h'.2 hd
theorem depL_mem {xs : List D} {d : D} (hd : d ∈ xs) : d.dep ≤ depL xs := by
  induction xs with
  | nil => cases hd
  | cons x xs ih =>
    show _ ≤ max x.dep (depL xs)
    rcases List.mem_cons.mp hd with rfl | hd
    · exact Nat.le_max_left _ _
    · exact Nat.le_trans (ih hd) (Nat.le_max_right _ _)
theorem each_zip : ∀ {vs : List V} {ds : List D} {its : List Value}, RepL K G F vs ds → Vals vs its → PySem.W.EachIs (fun v (b : V × D) => RelV b.1 v) its (vs.zip ds)
  | _, _, _, .nil, r => by cases r; exact .nil
  | _, _, _, .cons q t, r => by cases r with | cons r1 r2 => exact .cons r1 (each_zip t r2)
theorem zip_rep : ∀ {vs : List V} {ds : List D}, RepL K G F vs ds → ∀ b ∈ vs.zip ds, Rep K G F b.1 b.2
  | _, _, .nil, b, hb => by cases hb
  | _, _, .cons q t, b, hb => by
    rcases List.mem_cons.mp hb with rfl | hb
    · exact q
    · exact zip_rep t b hb
theorem zip_snd : ∀ {vs : List V} {ds : List D}, RepL K G F vs ds → (vs.zip ds).map (·.2) = ds
  | _, _, .nil => rfl
  | _, _, .cons q t => congrArg (_ :: ·) (zip_snd t)
theorem rep_map : ∀ {bs : List (V × D)}, (∀ b ∈ bs, Rep K G F b.1 b.2) → RepL K G F (bs.map (·.1)) (bs.map (·.2))
  | [], _ => .nil
  | b :: bs, h => .cons (h b List.mem_cons_self) (rep_map fun c hc => h c (List.mem_cons_of_mem _ hc))
theorem vals_each : ∀ {bs : List (V × D)} {out : List Value}, PySem.W.EachIs (fun v (b : V × D) => RelV b.1 v) out bs → Vals (bs.map (·.1)) out
  | _, _, .nil => .nil
  | _, _, .cons r t => .cons r (vals_each t)
theorem reads_zip {X : Cx} {pins : List (Addr × Obj)} {σ : L2.St} {H : Hp} {s : Shared} (I : Inv X pins σ H s) (hF : Same F H) : ∀ {vs : List V} {ds : List D} {its : List Value}, RepL X.K G F vs ds → plainL ds = true → Vals vs its →
    PySem.W.EachIs (fun v (b : V × D) => ∃ as, Reads s.heap v b.2.py as) its (vs.zip ds)
  | _, _, _, .nil, _, r => by cases r; exact .nil
  | _, _, _, .cons q t, h, r => by
    have h' := Bool.and_eq_true_iff.mp (show (_ && _) = true from h)
    cases r with
    | cons r1 r2 => exact .cons (Dp.reads I _ _ _ ((q.mono hF).dp h'.1) r1) (reads_zip I hF t h'.2 r2)
end
theorem sortB_ok {xs : List D} (h : sortB xs = true) (hp : plainL xs = true) : PySem.W.Sortable (xs.map D.py) := by
  unfold sortB at h
  rcases Bool.or_eq_true_iff.mp h with h | h
  · refine .inl fun d hd => ?_
    obtain ⟨x, hx, rfl⟩ := List.mem_map.mp hd
    have q := List.all_eq_true.mp h x hx
    split at q
    · exact ⟨_, _, rfl⟩
    · cases q
  · refine .inr fun d hd => ?_
    obtain ⟨x, hx, rfl⟩ := List.mem_map.mp hd
    have q := List.all_eq_true.mp h x hx
    have p := plainL_mem hp hx
    cases x with
    | non => cases q
    | tup _ => cases q
    | dct _ => cases p
    | ins _ _ => cases p
    | scr _ => cases p
    | _ => exact ⟨fun z => (by cases z), fun ys z => (by cases z)⟩
section
variable {G : Nat → Addr} {X : Cx} {w : Wd}
theorem sorted_end {pins : List (Addr × Obj)} {s : Shared} {σ : L2.St} {w : Wd} {Q : VK} {vs : List V} {xs : List D} {its out : List Value} (ok : w.Ok) (I : Inv X pins σ w.H s) (rr : RepL X.K G w.F vs xs) (hz : vs.length ≤ sizeLine)
    (gv : GivV X.K G w (.ml (xs.mergeSort leD)) Q) (eo : PySem.W.EachIs (fun v (b : V × D) => RelV b.1 v) out ((vs.zip xs).mergeSort (PySem.W.dataLe false fun b => b.2.py))) :
    EP X pins σ Q (.ref (s.heap.objs.size + 1)) { s with heap := sortedAll s.heap its out.toArray } := by
  obtain ⟨ep, he'⟩ := PyProof.Rows.sortedAll_at s.heap its out.toArray
  have hperm := List.mergeSort_perm (vs.zip xs) (PySem.W.dataLe false fun b : V × D => b.2.py)
  have hlen : (((vs.zip xs).mergeSort (PySem.W.dataLe false fun b : V × D => b.2.py)).map (·.1)).length ≤ sizeLine := by
    rw [List.length_map, hperm.length_eq, List.length_zip]
    omega
  have hrep : RepL X.K G w.F (((vs.zip xs).mergeSort (PySem.W.dataLe false fun b : V × D => b.2.py)).map (·.1)) (((vs.zip xs).mergeSort (PySem.W.dataLe false fun b : V × D => b.2.py)).map (·.2)) :=
    rep_map fun b hb => zip_rep rr b (hperm.mem_iff.mp hb)
  have e2 : ((vs.zip xs).mergeSort (PySem.W.dataLe false fun b : V × D => b.2.py)).map (·.2) = xs.mergeSort leD := by
    have h := List.map_mergeSort (r := PySem.W.dataLe false fun b : V × D => b.2.py) (s := leD) (f := (·.2)) (l := vs.zip xs) (fun a _ b _ => rfl)
    rw [h, zip_snd rr]
  rw [e2] at hrep
  have hn := I.hok.fresh (Nat.le_succ s.heap.objs.size)
  exact ⟨.ref _, upd w.H (s.heap.objs.size + 1) (.lst _), I.laid (t' := s.toks) (fun _ _ => PyProof.Rows.sortedAll_old) (Nat.le_succ _) ⟨hlen, out, ep, vals_each eo, by simpa using he'⟩, rfl, givV_new ok gv hn hrep⟩
theorem sorted_dct {pins : List (Addr × Obj)} {s : Shared} {σ : L2.St} {w : Wd} {Q : VK} {p : Addr} {kvs : List (Key × V)} {xs : List D} (hc : X.calm = true) (hu : X.A.units + 64 < cLine) (ok : w.Ok) (I : Inv X pins σ w.H s) (hd : Rd w.H p (.dK kvs)) (rr : RepL X.K G w.F (kvs.map fun kv => kV kv.1) xs)
    (h1 : plainL xs = true) (al : PySem.W.AllAlike (xs.map D.py)) (sb : PySem.W.Sortable (xs.map D.py)) (hdp : ∀ x ∈ xs, x.dep ≤ 32) (gv : GivV X.K G w (.ml (xs.mergeSort leD)) Q) :
    wpAny (model X.prog X.w) X.A (call (.builtin "sorted") [.ref p]) (EP X pins σ Q) X.xe s := by
  obtain ⟨z, lo, vv, rel, dd⟩ := dk_rd I.hok hd
  obtain ⟨ep, hat⟩ := dd.dictAt
  have hl : kvs.length = vv.length := Paired.length rel
  have h16 : vv.length ≤ sizeLine := by rw [← hl]; exact z
  refine Calls.call_function_entry PyProof.Rows.kind_sorted PyProof.Rows.plain_sorted PyProof.Rows.entry_sorted (PyProof.Rows.args_sorted1 _) ?_
  unfold Builtin.«sorted»
  refine wpAny_bind (m := checkCount "sorted" 1 1 _) (wpAny_pure ?_)
  refine wpAny_bind (PySem.W.kdu_collect (A := X.A.in1) (PySem.W.kdl_dict (knd := mixKind X.prog X.w) (kvs := vv) (ep := ep) lo) (I.ok.hd hc) hat h16 fun h' tk acc hk hacc => ?_)
  have hal : acc.toList.length = kvs.length := by rw [Array.length_toList, hacc.1, hl]
  have rv : Vals (kvs.map fun kv => kV kv.1) acc.toList := vals_of_at (by rw [List.length_map, hal]) fun j x w h1 h2 => by
    obtain ⟨k, y, hky, hi⟩ := hacc.2 j w (by rw [← Array.getElem?_toList]; exact h2)
    have e1 : (kvs.map (·.1))[j]? = some k := by
      rw [KV.keys rel, List.getElem?_map, hky] <;> rfl
    have e2 : (kvs.map fun kv => kV kv.1)[j]? = some (kV k) := by
      have e3 : (kvs.map fun kv => kV kv.1) = (kvs.map (·.1)).map kV := by rw [List.map_map] <;> rfl
      rw [e3, List.getElem?_map, e1] <;> rfl
    rw [e2] at h1
    cases h1
    exact keyIs_rel hi
  have I1 : Inv X pins σ w.H { s with heap := h', toks := tk } := I.kept hk
  have hsz : acc.toList.length ≤ sizeLine := by rw [hal]; exact z
  refine wpAny_bind (wpAny_newList ?_ hsz)
  have hoL : (h'.push (seqObj "list" acc.toList.toArray 0)).get? h'.objs.size = some (seqObj "list" acc.toList.toArray 0) := Heap.get?_push_size _ rfl
  show wpAny _ _ _ _ _ { s with heap := h'.push (seqObj "list" acc.toList.toArray 0), toks := tk }
  have fin : ((kvs.map fun kv => kV kv.1).zip xs).map (fun b => b.2.py) = xs.map D.py := by
    have : ((kvs.map fun kv => kV kv.1).zip xs).map (fun b => b.2.py) = (((kvs.map fun kv => kV kv.1).zip xs).map (·.2)).map D.py := by rw [List.map_map]; rfl
    rw [this, zip_snd rr]
  have e0 := each_zip rr rv
  have er := reads_zip I1 ok.sub rr h1 rv
  have er' : PySem.W.EachIs (fun v b => ∃ as, Reads (PySem.W.sortingHeap (h'.push (seqObj "list" acc.toList.toArray 0)) h'.objs.size acc.toList) v (D.py b.2) as) acc.toList ((kvs.map fun kv => kV kv.1).zip xs) :=
    er.mono fun _ _ ⟨as, r⟩ => ⟨as, PyProof.Rows.Reads.keeps (fun b o e => PySem.W.sortingHeap_old (Nat.ne_of_lt (Heap.lt_size e)) (Heap.get?_push_of_some _ e)) r⟩
  have un : ∀ b ∈ (kvs.map fun kv => kV kv.1).zip xs, X.A.units + 2 + (b.2.py).depth < cLine := fun b hb => by
    have := hdp b.2 (by rw [← zip_snd rr]; exact List.mem_map_of_mem hb)
    rw [py_dep]; omega
  have S := PySem.W.SortsAt.data (prog := X.prog) (w := X.w) (A := X.A.in1.in1) (s := { s with heap := PySem.W.sortingHeap (h'.push (seqObj "list" acc.toList.toArray 0)) h'.objs.size acc.toList, toks := tk }) (PySem.W.each_map (R := fun v d => ∃ as, Reads (PySem.W.sortingHeap (h'.push (seqObj "list" acc.toList.toArray 0)) h'.objs.size acc.toList) v d as) (fun b : V × D => D.py b.2) er') (by rw [fin]; exact al) (by rw [fin]; exact sb) (PySem.W.bound_map un)
  refine wpAny_bind (wpAny_holding (wpAny_call_entry_kw slot_list_sort ⟨_, hoL, rfl⟩ entry_list_sort (PySem.W.list_sort_vals (s := { s with heap := h'.push (seqObj "list" acc.toList.toArray 0), toks := tk }) hoL S hsz ⟨_, rfl, wpAny_pure ⟨_, rfl, ?_⟩⟩) (args_list_sort _)))
  have eo := PySem.W.sortVals_data (h' := PySem.W.sortingHeap (h'.push (seqObj "list" acc.toList.toArray 0)) h'.objs.size acc.toList) (enc := fun b : V × D => D.py b.2) false e0 er' (by rw [fin]; exact al)
  have hperm := List.mergeSort_perm ((kvs.map fun kv => kV kv.1).zip xs) (PySem.W.dataLe false fun b : V × D => b.2.py)
  have hlen : ((((kvs.map fun kv => kV kv.1).zip xs).mergeSort (PySem.W.dataLe false fun b : V × D => b.2.py)).map (·.1)).length ≤ sizeLine := by
    rw [List.length_map, hperm.length_eq, List.length_zip, List.length_map]
    omega
  have hrep : RepL X.K G w.F ((((kvs.map fun kv => kV kv.1).zip xs).mergeSort (PySem.W.dataLe false fun b : V × D => b.2.py)).map (·.1)) ((((kvs.map fun kv => kV kv.1).zip xs).mergeSort (PySem.W.dataLe false fun b : V × D => b.2.py)).map (·.2)) :=
    rep_map fun b hb => zip_rep rr b (hperm.mem_iff.mp hb)
  have e2 : (((kvs.map fun kv => kV kv.1).zip xs).mergeSort (PySem.W.dataLe false fun b : V × D => b.2.py)).map (·.2) = xs.mergeSort leD := by
    have h := List.map_mergeSort (r := PySem.W.dataLe false fun b : V × D => b.2.py) (s := leD) (f := (·.2)) (l := (kvs.map fun kv => kV kv.1).zip xs) (fun a _ b _ => rfl)
    rw [h, zip_snd rr]
  rw [e2] at hrep
  obtain ⟨e', he'⟩ := PyProof.Rows.sortedHeap_at (vs := acc.toList) (out := (PySem.W.sortVals _ false acc.toList acc.toList).toArray) hoL
  refine ⟨.ref h'.objs.size, upd w.H h'.objs.size (.lst _), I1.laid (t' := tk) (fun b u e => ?_) (Nat.le_refl _) ⟨hlen, _, e', vals_each eo, he'⟩, rfl, givV_new ok gv (I1.hok.fresh (Nat.le_refl _)) hrep⟩
  have hb : b < h'.objs.size := Heap.lt_size e
  rw [PyProof.Rows.sortedHeap_old (Nat.ne_of_lt hb) (by rw [size_push']; exact Nat.lt_succ_of_lt hb)]
  exact Heap.get?_push_of_some _ e
theorem callV_sorted (hc : X.calm = true) (hu : X.A.units + 64 < cLine) : CallV X G (.builtin "sorted") dSorted := by
  intro pins s σ H xs us Q I r ⟨w, ds, z, eH, ok, rb, eg, gv⟩
  subst eH
  unfold dSorted at eg
  split at eg
  · rename_i d
    obtain ⟨xs, e1, e2⟩ := Option.bind_eq_some_iff.mp eg
    cases hs : sortOk xs with
    | false => rw [hs] at e2; cases e2
    | true =>
      rw [hs] at e2
      cases e2
      unfold sortOk at hs
      obtain ⟨h123, h4⟩ := Bool.and_eq_true_iff.mp hs
      obtain ⟨h12, h3⟩ := Bool.and_eq_true_iff.mp h123
      obtain ⟨h1, h2⟩ := Bool.and_eq_true_iff.mp h12
      have hd : ∀ x ∈ xs, x.dep ≤ 32 := fun x hx => Nat.le_trans (depL_mem hx) (of_decide_eq_true h2)
      obtain ⟨v, rfl, r1⟩ := rep1 rb
      have fin : ∀ (vs : List V) (rr : RepL X.K G w.F vs xs), (vs.zip xs).map (fun b => b.2.py) = xs.map D.py := fun vs rr => by
        have : (vs.zip xs).map (fun b => b.2.py) = ((vs.zip xs).map (·.2)).map D.py := by rw [List.map_map]; rfl
        rw [this, zip_snd rr]
      have al : PySem.W.AllAlike (xs.map D.py) := fun a ha b hb => by
        obtain ⟨x, hx, rfl⟩ := List.mem_map.mp ha
        obtain ⟨y, hy, rfl⟩ := List.mem_map.mp hb
        exact List.all_eq_true.mp (List.all_eq_true.mp h3 x hx) y hy
      have un : ∀ (vs : List V) (rr : RepL X.K G w.F vs xs), ∀ b ∈ vs.zip xs, X.A.units + 2 + (b.2.py).depth < cLine := fun vs rr b hb => by
        have := hd b.2 (by rw [← zip_snd rr]; exact List.mem_map_of_mem hb)
        rw [py_dep]; omega
      cases d with
      | lst ys =>
        cases e1
        obtain ⟨p, vs, rfl, q, rr⟩ := repB_lst ok r1
        rw [Vals.ref1 r]
        obtain ⟨its, rv, hl, hz⟩ := I.list (a := p) (xs := vs) (.inl (.inl q))
        have hz' : vs.length ≤ sizeLine := hz
        exact PySem.W.sorted_data hl.isList (each_zip rr rv) (reads_zip I ok.sub rr h1 rv) (by rw [fin vs rr]; exact al) (by rw [fin vs rr]; exact sortB_ok h4 h1) (by rw [List.length_zip]; omega) (un vs rr) fun out ho eo => sorted_end ok I rr hz' gv eo
      | tup ys =>
        cases e1
        obtain ⟨p, vs, rfl, q, rr⟩ := repB_tup r1
        rw [Vals.ref1 r]
        obtain ⟨its, rv, hl, hz⟩ := I.tuple (SqT.same ok.sub q)
        have hz' : vs.length ≤ sizeLine := hz
        exact sorted_dataT hl (each_zip rr rv) (reads_zip I ok.sub rr h1 rv) (by rw [fin vs rr]; exact al) (by rw [fin vs rr]; exact sortB_ok h4 h1) (by rw [List.length_zip]; omega) (un vs rr) fun out ho eo => sorted_end ok I rr hz' gv eo
      | dct ks =>
        cases e1
        obtain ⟨p, kvs, rfl, hdk, rk⟩ := repB_dct ok r1
        rw [Vals.ref1 r]
        exact sorted_dct hc hu ok I hdk (rep_keys rk) h1 al (sortB_ok h4 h1) hd gv
      | _ => cases e1
  · cases eg
def dRepr : List D → Option D
  | [.tup xs] => if plainL xs && decide (depL xs ≤ 32) && (D.tup xs).py.showable && decide ((D.tup xs).py.shown.length ≤ 16777216) then some (.str (D.tup xs).py.shown.cps.toList) else none
  | [.lst xs] => if plainL xs && decide (depL xs ≤ 32) && (D.lst xs).py.showable && decide ((D.lst xs).py.shown.length ≤ 16777216) then some (.str (D.lst xs).py.shown.cps.toList) else none
  | [.non] => some (.str (PySem.Str.ofString "None").cps.toList)
  | [.bl b] => some (.str (PySem.Str.ofString (if b then "True" else "False")).cps.toList)
  | [.int i] => if i.natAbs.log2 < 1920 then some (.str (toString i : PySem.Str).cps.toList) else none
  | [.str x] => if (reprText ⟨x.toArray⟩).length ≤ 16777216 then some (.str (reprText ⟨x.toArray⟩).cps.toList) else none
  | _ => none
theorem giv_txt {w : Wd} {Q : VK} (ok : w.Ok) {z : PySem.Str} (gv : Giv X.K G w (.str z.cps.toList) Q) : Q (.str z) w.H := by
  have e : z = ⟨z.cps.toList.toArray⟩ := by simp
  rw [e]
  exact giv_here ok gv (.str _)
mutual
theorem py_nodict : ∀ d : D, d.py.hasDict = false
  | .non => rfl
  | .bl _ => rfl
  | .int _ => rfl
  | .str _ => rfl
  | .tup xs => pyL_nodict xs
  | .lst xs => pyL_nodict xs
  | .dct _ => rfl
  | .ins _ _ => rfl
  | .scr _ => rfl
theorem pyL_nodict : ∀ ds : List D, PyData.hasDictAll (pyL ds) = false
  | [] => rfl
  | x :: xs => by
    show (x.py.hasDict || PyData.hasDictAll (pyL xs)) = false
    rw [py_nodict x, pyL_nodict xs]; rfl
end
theorem repr_run {pins : List (Addr × Obj)} {s : Shared} {σ : L2.St} {w : Wd} {Q : VK} {v : V} {u : Value} {d : D} {a : Addr} (hg : X.A.guards = some []) (hu : X.A.units + 64 < cLine) (ok : w.Ok) (I : Inv X pins σ w.H s) (r : RelV v u) (ea : v = .ref a) (rd : RepB X.K G w v d) (hp : d.plain = true) (hd : d.dep ≤ 33)
    (hs : d.py.showable = true) (hl : d.py.shown.length ≤ 16777216) (gv : Giv X.K G w (.str d.py.shown.cps.toList) Q) : wpAny (model X.prog X.w) X.A (call (.builtin "repr") [u]) (EP X pins σ Q) X.xe s := by
  obtain ⟨as, rs⟩ := Dp.reads I d.py v u (rd.dp ok hp) r
  subst ea
  cases (show u = Value.ref a from r)
  refine PySem.repr_of_reads' rs hs (fun h => by rw [py_nodict] at h; cases h) hg (by rw [py_dep]; omega) (fun _ _ e => e) (fun h' t tk hk => ?_) (by rw [sizeLine_eq]; exact hl)
  exact ⟨.str d.py.shown, w.H, I.kept hk, ⟨t, rfl⟩, giv_here ok gv (by
    have e : d.py.shown = ⟨d.py.shown.cps.toList.toArray⟩ := by simp
    conv => rhs; rw [← Array.toArray_toList (xs := d.py.shown.cps)]
    exact .str _)⟩
theorem callS_repr (hg : X.A.guards = some []) (hu : X.A.units + 64 < cLine) : CallS X G (.builtin "repr") dRepr := by
  intro pins s σ H xs us Q I r ⟨w, ds, z, eH, ok, rb, eg, gv⟩
  subst eH
  unfold dRepr at eg
  split at eg
  · rename_i xs
    obtain ⟨v, rfl, r1⟩ := rep1 rb
    obtain ⟨u, rfl, r2⟩ := vals1 r
    split at eg
    · rename_i h
      cases eg
      obtain ⟨h123, h4⟩ := Bool.and_eq_true_iff.mp h
      obtain ⟨h12, h3⟩ := Bool.and_eq_true_iff.mp h123
      obtain ⟨h1, h2⟩ := Bool.and_eq_true_iff.mp h12
      obtain ⟨p, vs, rfl, _⟩ := repB_tup r1
      exact repr_run hg hu ok I r2 rfl r1 h1 (Nat.succ_le_succ (of_decide_eq_true h2)) h3 (of_decide_eq_true h4) gv
    · cases eg
  · rename_i xs
    obtain ⟨v, rfl, r1⟩ := rep1 rb
    obtain ⟨u, rfl, r2⟩ := vals1 r
    split at eg
    · rename_i h
      cases eg
      obtain ⟨h123, h4⟩ := Bool.and_eq_true_iff.mp h
      obtain ⟨h12, h3⟩ := Bool.and_eq_true_iff.mp h123
      obtain ⟨h1, h2⟩ := Bool.and_eq_true_iff.mp h12
      obtain ⟨p, vs, rfl, _⟩ := repB_lst ok r1
      exact repr_run hg hu ok I r2 rfl r1 h1 (Nat.succ_le_succ (of_decide_eq_true h2)) h3 (of_decide_eq_true h4) gv
    · cases eg
  · obtain ⟨v, rfl, r1⟩ := rep1 rb
    obtain ⟨u, rfl, r2⟩ := vals1 r
    cases eg
    have e : v = .non := of_decide_eq_true ((repB_non r1).trans rfl)
    subst e
    cases (show u = Value.none from r2)
    exact P.repr_of_none ⟨.str _, w.H, I.kept (h' := s.heap) fun _ _ e => e, ⟨_, rfl⟩, giv_txt ok gv⟩
  · rename_i b
    obtain ⟨v, rfl, r1⟩ := rep1 rb
    obtain ⟨u, rfl, r2⟩ := vals1 r
    cases eg
    rw [repB_bl r1] at r2
    cases (show u = Value.bool b from r2)
    cases b <;> exact P.repr_of_bool ⟨.str _, w.H, I.kept (h' := s.heap) fun _ _ e => e, ⟨_, rfl⟩, giv_txt ok gv⟩
  · rename_i i
    obtain ⟨v, rfl, r1⟩ := rep1 rb
    obtain ⟨u, rfl, r2⟩ := vals1 r
    split at eg
    · rename_i h
      cases eg
      rw [repB_int r1] at r2
      obtain ⟨t, e⟩ := (show ∃ t, u = Value.int i t from r2)
      subst e
      exact P.repr_of_int h ⟨.str _, w.H, I.kept (h' := s.heap) fun _ _ e => e, ⟨_, rfl⟩, giv_txt ok gv⟩
    · cases eg
  · rename_i x
    obtain ⟨v, rfl, r1⟩ := rep1 rb
    obtain ⟨u, rfl, r2⟩ := vals1 r
    split at eg
    · rename_i h
      cases eg
      rw [repB_str r1] at r2
      obtain ⟨t, e⟩ := (show ∃ t, u = Value.str ⟨x.toArray⟩ t from r2)
      subst e
      exact P.repr_of_str ⟨.str _, w.H, I.kept (h' := s.heap) fun _ _ e => e, ⟨_, rfl⟩, giv_txt ok gv⟩ (by rw [sizeLine_eq]; exact h)
    · cases eg
  · cases eg
end
end Rz
namespace Rz
open PySem PySem.Spec PyProof.Rows L2
section
variable {G : Nat → Addr} {X : Cx} {W : WX} {e e2 o : Expr} {es : List Expr} {pos apos cpos np : Pos} {w w' w0 : Wd} {st : Env} {σ : L2.St} {i : Nat} {x : Str}
theorem Rel.putL {K : PySem.W.Frag} (r : Rel K G w st σ) {a : Addr} {vs' : List V} {xs xs' : List D} (e : st[i]? = some (.ml xs)) (hσ : σ[i]? = some (some (.ref a))) (hk : w.k a = .own i) (q : RepL K G w.F vs' xs') :
    Rel K G (w.put a (.lst vs')) (st.set i (.ml xs')) σ := by
  have nf : w.k a ≠ .frz := by rw [hk]; intro z; cases z
  refine ⟨Wd.put_ok r.ok nf, by rw [List.length_set]; exact r.len, fun j s h => ?_, r.tk⟩
  rcases set_at h with ⟨rfl, rfl⟩ | ⟨n, h⟩
  · exact ⟨_, hσ, a, vs', rfl, hk, upd_same, q⟩
  · obtain ⟨y, hy, q'⟩ := r.at_ j s h
    exact ⟨y, hy, q'.put hk n⟩
def appM (i : Nat) (m : M D) : M D := fun st => match st[i]? with
  | some (.ml _) => (m st).bind fun d => fun st1 => match st1[i]? with
    | some (.ml xs) => if xs.length < 16777216 then .ok .non (st1.set i (.ml (xs ++ [d]))) else .bad
    | _ => .bad
  | _ => .bad
theorem own_at {K : PySem.W.Frag} (r : Rel K G w st σ) {xs : List D} (h : st[i]? = some (.ml xs)) : ∃ a vs, σ[i]? = some (some (.ref a)) ∧ w.k a = .own i ∧ w.H a = some (.lst vs) ∧ RepL K G w.F vs xs := by
  obtain ⟨y, hy, a, vs, rfl, k, hh, rr⟩ := r.at_ i _ h
  exact ⟨a, vs, hy, k, hh, rr⟩
theorem snd_app {m : M D} (h : SndD G X W e m) (hN : X.N[i]? = some x := by rfl) (hv : Vis X.env.scope x := by first | exact Or.inl rfl | exact Or.inr (Or.inl rfl) | exact Or.inr (Or.inr rfl))
    (hd : (x == ("__debug__" : Str)) = false := by decide) (hcd : (x == ("__classdict__" : Str)) = false := by decide)
    (hbase : attributeBase (.Name x np) "append" X.env (eval (.Name x np) X.env) = eval (.Name x np) X.env := by rfl)
    (hfew : ((backTo cpos (starEach [e] X.env)).all (fun x => !x.1) && (backToKw cpos (keywordEach [] X.env)).all (fun x => x.1.isSome)
      && decide ([e].length + ([] : List Keyword).length + (if ([] : List Keyword).isEmpty then 0 else 1) < 30)) = true := by rfl)
    (hline : (apos.endLine == cpos.line) = true := by rfl) (hs : starEach [e] X.env = (false, eval e X.env) :: starEach [] X.env := by rfl) :
    SndD G X W (.Call (.Attribute (.Name x np) "append" apos) [e] [] cpos) (appM i m) := by
  intro w st σ Q r p
  unfold appM at p
  cases e0 : st[i]? with
  | none => rw [e0] at p; exact p.elim
  | some s0 =>
    rw [e0] at p
    cases s0 with
    | ml xs0 =>
      obtain ⟨a, vs0, hσ, k0, h0, r0⟩ := own_at r e0
      refine RunE.of (pe_bm F.plainAttrs_list PySem.F.slot_list_append PySem.F.type_list_append mt_append (pe_var hN hv hd hcd) (pa_cons (pe_run (e := e)) pa_nil hs) hbase hfew hline hs rfl) ?_
      refine ⟨.ref a, hσ, .inl ⟨rfl, vs0, .inl (.inl h0)⟩, ?_⟩
      refine h w st σ _ r ?_
      have p : Post X.K G (RD X.K G) w σ W ((m st).bind fun d => fun st1 => match st1[i]? with
        | some (.ml xs) => if xs.length < 16777216 then .ok .non (st1.set i (.ml (xs ++ [d]))) else .bad
        | _ => .bad) Q := p
      cases em : m st with
      | bad => rw [em] at p; exact p
      | exc y st1 => rw [em] at p; exact p
      | ok d st1 =>
        rw [em] at p
        intro u w1 r1 s1 q1
        have p : Post X.K G (RD X.K G) w σ W (match st1[i]? with
          | some (.ml xs) => if xs.length < 16777216 then Out.ok D.non (st1.set i (.ml (xs ++ [d]))) else .bad
          | _ => .bad) Q := p
        cases e1 : st1[i]? with
        | none => rw [e1] at p; exact p.elim
        | some s2 =>
          rw [e1] at p
          cases s2 with
          | ml xs =>
            obtain ⟨b, vs, hσ', k1, h1, r1'⟩ := own_at r1 e1
            rw [hσ] at hσ'
            cases hσ'
            have p : Post X.K G (RD X.K G) w σ W (if xs.length < 16777216 then Out.ok D.non (st1.set i (.ml (xs ++ [d]))) else .bad) Q := p
            by_cases hz : xs.length < 16777216
            · rw [if_pos hz] at p
              refine ⟨a, vs, u, rfl, rfl, h1, by rw [r1'.length, sizeLine_eq]; exact hz, ?_⟩
              exact p .non (w1.put a (.lst (vs ++ [u]))) (r1.putL e1 hσ k1 (r1'.append (.cons q1 .nil))) (s1.trans r1.ok (Wd.put_ok r1.ok (by rw [k1]; intro z; cases z)) (Wd.put_step r1.ok k1)) .non
            · rw [if_neg hz] at p; exact p.elim
          | _ => exact p.elim
    | _ => exact p.elim
def catD (xs : List D) : D → Option (List D)
  | .lst ys => if xs.length + ys.length ≤ 16777216 then some (xs ++ ys) else none
  | _ => none
def extM (i : Nat) (m : M D) : M D := fun st => match st[i]? with
  | some (.ml _) => (m st).bind fun d => fun st1 => match st1[i]? with
    | some (.ml xs) => (match catD xs d with
      | some zs => .ok .non (st1.set i (.ml zs))
      | none => .bad)
    | _ => .bad
  | _ => .bad
theorem snd_ext {m : M D} (h : SndD G X W e m) (hN : X.N[i]? = some x := by rfl) (hv : Vis X.env.scope x := by first | exact Or.inl rfl | exact Or.inr (Or.inl rfl) | exact Or.inr (Or.inr rfl))
    (hd : (x == ("__debug__" : Str)) = false := by decide) (hcd : (x == ("__classdict__" : Str)) = false := by decide)
    (hbase : attributeBase (.Name x np) "extend" X.env (eval (.Name x np) X.env) = eval (.Name x np) X.env := by rfl)
    (hfew : ((backTo cpos (starEach [e] X.env)).all (fun x => !x.1) && (backToKw cpos (keywordEach [] X.env)).all (fun x => x.1.isSome)
      && decide ([e].length + ([] : List Keyword).length + (if ([] : List Keyword).isEmpty then 0 else 1) < 30)) = true := by rfl)
    (hline : (apos.endLine == cpos.line) = true := by rfl) (hs : starEach [e] X.env = (false, eval e X.env) :: starEach [] X.env := by rfl) :
    SndD G X W (.Call (.Attribute (.Name x np) "extend" apos) [e] [] cpos) (extM i m) := by
  intro w st σ Q r p
  unfold extM at p
  cases e0 : st[i]? with
  | none => rw [e0] at p; exact p.elim
  | some s0 =>
    rw [e0] at p
    cases s0 with
    | ml xs0 =>
      obtain ⟨a, vs0, hσ, k0, h0, r0⟩ := own_at r e0
      refine RunE.of (pe_bm F.plainAttrs_list PySem.F.slot_list_extend PySem.F.type_list_extend mt_extend (pe_var hN hv hd hcd) (pa_cons (pe_run (e := e)) pa_nil hs) hbase hfew hline hs rfl) ?_
      refine ⟨.ref a, hσ, .inl ⟨rfl, vs0, .inl (.inl h0)⟩, ?_⟩
      refine h w st σ _ r ?_
      have p : Post X.K G (RD X.K G) w σ W ((m st).bind fun d => fun st1 => match st1[i]? with
        | some (.ml xs) => (match catD xs d with
          | some zs => .ok .non (st1.set i (.ml zs))
          | none => .bad)
        | _ => .bad) Q := p
      cases em : m st with
      | bad => rw [em] at p; exact p
      | exc y st1 => rw [em] at p; exact p
      | ok d st1 =>
        rw [em] at p
        intro u w1 r1 s1 q1
        have p : Post X.K G (RD X.K G) w σ W (match st1[i]? with
          | some (.ml xs) => (match catD xs d with
            | some zs => Out.ok D.non (st1.set i (.ml zs))
            | none => .bad)
          | _ => .bad) Q := p
        cases e1 : st1[i]? with
        | none => rw [e1] at p; exact p.elim
        | some s2 =>
          rw [e1] at p
          cases s2 with
          | ml xs =>
            obtain ⟨b, vs, hσ', k1, h1, r1'⟩ := own_at r1 e1
            rw [hσ] at hσ'
            cases hσ'
            have p : Post X.K G (RD X.K G) w σ W (match catD xs d with
              | some zs => Out.ok D.non (st1.set i (.ml zs))
              | none => .bad) Q := p
            cases ec : catD xs d with
            | none => rw [ec] at p; exact p.elim
            | some zs =>
              rw [ec] at p
              cases d with
              | lst ys =>
                have ec : (if xs.length + ys.length ≤ 16777216 then some (xs ++ ys) else none) = some zs := ec
                by_cases hz : xs.length + ys.length ≤ 16777216
                · rw [if_pos hz] at ec
                  cases ec
                  cases (show Rep X.K G w1.F u (.lst ys) from q1) with
                  | @lst b ws _ hb rb =>
                    refine ⟨a, b, vs, ws, rfl, rfl, h1, r1.ok.sub _ _ hb, by rw [r1'.length, rb.length, sizeLine_eq]; exact hz, ?_⟩
                    exact p .non (w1.put a (.lst (vs ++ ws))) (r1.putL e1 hσ k1 (r1'.append rb)) (s1.trans r1.ok (Wd.put_ok r1.ok (by rw [k1]; intro z; cases z)) (Wd.put_step r1.ok k1)) .non
                · rw [if_neg hz] at ec; cases ec
              | _ => cases ec
          | _ => exact p.elim
    | _ => exact p.elim
def dJoin : D → D → Option D
  | .str a, d => (seqD d).bind fun xs => (strsOf xs).bind fun ys => if (ys.map (·.length)).sum + ys.length * a.length ≤ 16777216 then some (.str (Txt.join ⟨a.toArray⟩ (ys.map fun s => ⟨s.toArray⟩)).cps.toList) else none
  | _, _ => none
def joinM (m m' : M D) : M D := bindM m fun a => match a with
  | .str _ => bindM m' fun d => liftM (dJoin a d)
  | _ => badM
theorem snd_join {m m' : M D} (ho : SndD G X W o m) (h : SndD G X W e m')
    (hbase : attributeBase o "join" X.env (eval o X.env) = eval o X.env := by rfl)
    (hfew : ((backTo cpos (starEach [e] X.env)).all (fun x => !x.1) && (backToKw cpos (keywordEach [] X.env)).all (fun x => x.1.isSome)
      && decide ([e].length + ([] : List Keyword).length + (if ([] : List Keyword).isEmpty then 0 else 1) < 30)) = true := by rfl)
    (hline : (apos.endLine == cpos.line) = true := by rfl) (hs : starEach [e] X.env = (false, eval e X.env) :: starEach [] X.env := by rfl) :
    SndD G X W (.Call (.Attribute o "join" apos) [e] [] cpos) (joinM m m') := by
  intro w st σ Q r p
  refine RunE.of (pe_bm F.plainAttrs_str PySem.F.slot_str_join PySem.F.type_str_join mt_join pe_run (pa_cons (pe_run (e := e)) pa_nil hs) hbase hfew hline hs rfl) ?_
  refine Snd.bind (run1 := RunE X o) ho older_D r p fun a u w1 st1 r1 s1 q1 p1 => ?_
  cases a with
  | str t =>
    cases q1
    refine ⟨rfl, ?_⟩
    refine Snd.bind (run1 := RunE X e) h older_D r1 p1 fun d u' w2 st2 r2 s2 q2 p2 => ?_
    have p3 : Post X.K G (RD X.K G) w2 σ W ((liftM (dJoin (.str t) d) : M D) st2) Q := p2
    cases ej : dJoin (.str t) d with
    | none => rw [ej] at p3; exact p3.elim
    | some z =>
      rw [ej] at p3
      obtain ⟨xs, e1, e2⟩ := Option.bind_eq_some_iff.mp (show (seqD d).bind _ = some z from ej)
      obtain ⟨ys, e3, e4⟩ := Option.bind_eq_some_iff.mp e2
      obtain rfl := strsOf_eq e3
      by_cases hz : (ys.map (·.length)).sum + ys.length * t.length ≤ 16777216
      · rw [if_pos hz] at e4
        cases e4
        have fin : Q (.str (Txt.join ⟨t.toArray⟩ (ys.map fun s => ⟨s.toArray⟩))) w2.H := by
          have h0 := p3 (.str (Txt.join ⟨t.toArray⟩ (ys.map fun s => ⟨s.toArray⟩))) w2 r2 (Step.refl _) ?_
          · exact h0
          · have e : Txt.join ⟨t.toArray⟩ (ys.map fun s => (⟨s.toArray⟩ : Str)) = ⟨(Txt.join ⟨t.toArray⟩ (ys.map fun s => (⟨s.toArray⟩ : Str))).cps.toList.toArray⟩ := by simp
            show Rep X.K G w2.F (.str (Txt.join ⟨t.toArray⟩ (ys.map fun s => (⟨s.toArray⟩ : Str)))) _
            generalize Txt.join ⟨t.toArray⟩ (ys.map fun s => (⟨s.toArray⟩ : Str)) = z at e ⊢
            rw [e]
            simp only
            exact .str _
        have hl : ((ys.map fun s => (⟨s.toArray⟩ : Str)).map (·.length)).sum + (ys.map fun s => (⟨s.toArray⟩ : Str)).length * (⟨t.toArray⟩ : Str).length ≤ 16777216 := by
          rw [List.map_map, List.length_map, str_len]
          have e5 : ((fun x : Str => x.length) ∘ fun s : List Nat => (⟨s.toArray⟩ : Str)) = fun s => s.length := by funext s; exact str_len s
          rw [e5]; exact hz
        cases d with
        | lst xs =>
          cases e1
          cases (show Rep X.K G w2.F u' (.lst _) from q2) with
          | @lst b ws _ hb rb =>
            obtain rfl := repL_strs rb
            exact ⟨⟨t.toArray⟩, b, ys.map fun s => ⟨s.toArray⟩, rfl, rfl, .inl (.inl (.inl (by rw [List.map_map]; exact r2.ok.sub _ _ hb))), hl, fin⟩
        | tup xs =>
          cases e1
          cases (show Rep X.K G w2.F u' (.tup _) from q2) with
          | @tup b ws _ hb rb =>
            obtain rfl := repL_strs rb
            exact ⟨⟨t.toArray⟩, b, ys.map fun s => ⟨s.toArray⟩, rfl, rfl, .inr (by rw [List.map_map]; exact SqT.same r2.ok.sub hb), hl, fin⟩
        | _ => cases e1
      · rw [if_neg hz] at e4; cases e4
  | _ => exact p1.elim
end
section
variable {G : Nat → Addr} {X : Cx} {W : WX} {pr : List Nat} {e : Expr} {pos pos' : Pos}
def augM (i : Nat) (g : D → D → Option D) (m : M D) : M Fl := fun st => match st[i]? with
  | some (.fz (.int n)) => (m st).bind fun d => match d with
    | .int k => (match g (.int n) (.int k) with
      | some z => fun st1 => .ok .nx (st1.set i (.fz z))
      | none => badM)
    | _ => badM
  | _ => .bad
theorem sc_aug {i : Nat} {x : Str} {m : M D} {op : Operator} {k : Int → Int → Int} (hN : X.N.Nodup) (hi : X.N[i]? = some x) (hx : Loc X.env.scope x) (hp : i ∉ pr) (h : SndD G X W e m) (ho : OpR X (inplaceOp op) (rI0 fun i j => .int (k i j)))
    (hf : X.fn x = true ∨ X.env.scope.names.lookup x = some .local := by first | exact .inl rfl | exact .inr rfl | assumption) :
    SndC G X W pr (.AugAssign (.Name x pos') op e pos) (augM i (fun a b => match a, b with | .int i, .int j => some (.int (k i j)) | _, _ => none) m) := by
  intro w0 w st σ D ok0 r s own p
  unfold augM at p
  cases e0 : st[i]? with
  | none => rw [e0] at p; exact p.elim
  | some s0 =>
    rw [e0] at p
    cases s0 with
    | fz d0 =>
      cases d0 with
      | int n =>
        obtain ⟨y, hy, v, rfl, q⟩ := r.at_ i _ e0
        cases q
        refine RunS.of (ps_aug (ti := rI0 fun i j => .int (k i j)) hN hi hx pe_run ho hf) ⟨.int n, hy, ?_⟩
        refine Snd.stmt (run1 := RunE X e) h r s p fun d u w1 st1 r1 s1 _ q1 p1 => ?_
        cases d with
        | int j =>
          cases q1
          exact ⟨n, j, rfl, rfl, p1 w1 _ (r1.store (.int (k n j))) s1 (Same.refl _) (Kept.set hp)⟩
        | _ => exact p1.elim
      | _ => exact p.elim
    | _ => exact p.elim
end
section
variable {K : PySem.W.Frag} {G : Nat → Addr}
inductive FrL (K : PySem.W.Frag) (G : Nat → Addr) (w0 w : Wd) : List V → List Sl → Prop
  | nil : FrL K G w0 w [] []
  | cons {v : V} {vs : List V} {s : Sl} {ss : List Sl} : FrR K G w0 w v s → (ownd s = true → ∀ (j : Nat) (s' : Sl), ss[j]? = some s' → ownd s' = true → vs[j]? ≠ some v) → FrL K G w0 w vs ss → FrL K G w0 w (v :: vs) (s :: ss)
def SndVL (G : Nat → Addr) (X : Cx) (W : WX) (es : List Expr) (m : M (List Sl)) : Prop := Snd X.K G (RunL X es) (FrL X.K G) W m
theorem FrL.older {w w1 w' : Wd} (s : Step w w1) : ∀ {vs : List V} {ss : List Sl}, FrL K G w1 w' vs ss → FrL K G w w' vs ss
  | _, _, .nil => .nil
  | _, _, .cons r n t => .cons (older_V _ _ _ _ _ s r) n (FrL.older s t)
theorem older_VL : Older (FrL K G) := fun _ _ _ _ _ s h => h.older s
theorem FrR.keep {w0 w w' : Wd} (s : Step w w') {v : V} {x : Sl} (h : FrR K G w0 w v x) : FrR K G w0 w' v x := by
  cases x with
  | un => exact h
  | fz d => exact Rep.mono s.f h
  | ml xs => obtain ⟨a, vs, e, n, k, hh, r⟩ := h; obtain ⟨h1, k1⟩ := s.o a _ hh k; exact ⟨a, vs, e, n, k1, h1, r.mono s.f⟩
  | md xs => obtain ⟨a, vs, e, n, k, hh, r⟩ := h; obtain ⟨h1, k1⟩ := s.o a _ hh k; exact ⟨a, vs, e, n, k1, h1, r.mono s.f⟩
  | mi c xs => obtain ⟨a, dx, vs, e, n, k, hh, r⟩ := h; obtain ⟨h1, k1⟩ := s.o a _ hh k; exact ⟨a, dx, vs, e, n, k1, h1, r.mono s.f⟩
theorem FrR.addr {w0 w : Wd} {v : V} {x : Sl} (h : FrR K G w0 w v x) (ho : ownd x = true) : ∃ a, v = .ref a ∧ w0.H a = none ∧ (∃ o, w.H a = some o) ∧ w.k a = .oth := by
  cases x with
  | ml xs => obtain ⟨a, vs, e, n, k, hh, r⟩ := h; exact ⟨a, e, n, ⟨_, hh⟩, k⟩
  | md xs => obtain ⟨a, vs, e, n, k, hh, r⟩ := h; exact ⟨a, e, n, ⟨_, hh⟩, k⟩
  | mi c xs => obtain ⟨a, dx, vs, e, n, k, hh, r⟩ := h; exact ⟨a, e, n, ⟨_, hh⟩, k⟩
  | _ => cases ho
theorem FrL.get {w0 w : Wd} : ∀ {vs : List V} {ss : List Sl} {j : Nat} {s : Sl}, FrL K G w0 w vs ss → ss[j]? = some s → ∃ v, vs[j]? = some v ∧ FrR K G w0 w v s
  | _, _, _, _, .nil, e => by simp at e
  | _, _, 0, _, .cons r _ _, e => by simp at e; subst e; exact ⟨_, rfl, r⟩
  | _, _, j + 1, s, .cons _ _ t, e => by
    obtain ⟨u, h1, h2⟩ := FrL.get (j := j) (s := s) t (by simpa using e)
    exact ⟨u, by simpa using h1, h2⟩
theorem FrL.length {w0 w : Wd} : ∀ {vs : List V} {ss : List Sl}, FrL K G w0 w vs ss → vs.length = ss.length
  | _, _, .nil => rfl
  | _, _, .cons _ _ t => congrArg Nat.succ (FrL.length t)
end
def nilV : M (List Sl) := pureM []
def consV (m : M Sl) (ml : M (List Sl)) : M (List Sl) := bindM m fun s => bindM ml fun ss => pureM (s :: ss)
section
variable {G : Nat → Addr} {X : Cx} {W : WX} {pr : List Nat} {e : Expr} {es : List Expr} {pos : Pos}
theorem sv_nil : SndVL G X W [] nilV := fun w st σ Q r p => p [] w r (Step.refl w) .nil
theorem sv_cons {m : M Sl} {ml : M (List Sl)} (h : SndV G X W e m) (hl : SndVL G X W es ml) : SndVL G X W (e :: es) (consV m ml) := by
  intro w st σ Q r p
  show RunE X e σ w.H _
  refine h w st σ _ r ?_
  have p : Post X.K G (FrL X.K G) w σ W ((m st).bind fun s => bindM ml fun ss => pureM (s :: ss)) Q := p
  cases e0 : m st with
  | bad => rw [e0] at p; exact p
  | exc x st1 => rw [e0] at p; exact p
  | ok s st1 =>
    rw [e0] at p
    intro u w1 r1 s1 q1
    refine hl w1 st1 σ _ r1 ?_
    have p : Post X.K G (FrL X.K G) w σ W ((ml st1).bind fun ss => pureM (s :: ss)) Q := p
    cases e1 : ml st1 with
    | bad => rw [e1] at p; exact p
    | exc x st2 =>
      rw [e1] at p
      exact fun c d w2 r2 s2 x2 => p c d w2 r2 (s1.trans r1.ok r2.ok s2) x2
    | ok ss st2 =>
      rw [e1] at p
      intro us w2 r2 s2 q2
      refine p (u :: us) w2 r2 (s1.trans r1.ok r2.ok s2) (.cons (q1.keep s2) (fun ho j s' hj ho' z => ?_) (q2.older s1))
      obtain ⟨v', ev, f'⟩ := q2.get hj
      obtain ⟨a, rfl, _, ⟨o, h1⟩, _⟩ := q1.addr ho
      obtain ⟨a', rfl, h2, _⟩ := f'.addr ho'
      rw [ev] at z
      cases z
      rw [h2] at h1; cases h1
theorem RunL.mono {σ : L2.St} : ∀ {es : List Expr} {H : Hp} {Q Q' : List V → Hp → Prop}, RunL X es σ H Q → (∀ vs H', Q vs H' → Q' vs H') → RunL X es σ H Q'
  | [], _, _, _, h, q => q _ _ h
  | e :: es, H, Q, Q', h, q => RunE.mk fun pins s I => thn (RunE.run (e := e) h pins s I) fun v s1 ⟨x, H1, I1, r1, q1⟩ => ⟨x, H1, I1, r1, RunL.mono (es := es) q1 fun vs H' h' => q _ _ h'⟩
def putsE : Env → List Nat → List Sl → Env
  | st, i :: is, s :: ss => putsE (st.set i s) is ss
  | st, _, _ => st
def setsS : L2.St → List Nat → List V → L2.St
  | σ, i :: is, v :: vs => setsS (σ.set i (some v)) is vs
  | σ, _, _ => σ
def putsM (is : List Nat) (ml : M (List Sl)) : M Fl := bindM ml fun ss => fun st => if ss.length = is.length then .ok .nx (putsE st is ss) else .bad
theorem FrR.own {K : PySem.W.Frag} {w0 w : Wd} {a : Addr} {i : Nat} {v : V} {x : Sl} (hn : ownd x = true → v ≠ .ref a) (h : FrR K G w0 w v x) : FrR K G w0 (w.own a i) v x := by
  have key : ∀ b, b ≠ a → w.k b = .oth → (w.own a i).k b = .oth := fun b hb hk => by unfold Wd.own; dsimp only; rw [if_neg hb]; exact hk
  cases x with
  | un => exact h
  | fz d => exact h
  | ml xs => obtain ⟨b, vs, rfl, n, k, hh, r⟩ := h; exact ⟨b, vs, rfl, n, key b (fun z => hn rfl (by rw [z])) k, hh, r⟩
  | md xs => obtain ⟨b, vs, rfl, n, k, hh, r⟩ := h; exact ⟨b, vs, rfl, n, key b (fun z => hn rfl (by rw [z])) k, hh, r⟩
  | mi c xs => obtain ⟨b, dx, vs, rfl, n, k, hh, r⟩ := h; exact ⟨b, dx, vs, rfl, n, key b (fun z => hn rfl (by rw [z])) k, hh, r⟩
theorem FrL.own {K : PySem.W.Frag} {w0 w : Wd} {a : Addr} {i : Nat} : ∀ {vs : List V} {ss : List Sl}, (∀ (j : Nat) (s' : Sl), ss[j]? = some s' → ownd s' = true → vs[j]? ≠ some (V.ref a)) → FrL K G w0 w vs ss → FrL K G w0 (w.own a i) vs ss
  | _, _, _, .nil => .nil
  | _, _, hn, .cons r n t => .cons (r.own fun ho z => hn 0 _ rfl ho (by rw [z]; rfl)) n (FrL.own (fun j s' h ho => by simpa using hn (j + 1) s' (by simpa using h) ho) t)
theorem Rel.puts {K : PySem.W.Frag} {w0 wB : Wd} (ok0 : w0.Ok) (h0 : ∀ a, wB.H a = none → w0.H a = none) : ∀ {is : List Nat} {vs : List V} {ss : List Sl} {w : Wd} {st : Env} {σ : L2.St}, Rel K G w st σ → Step w0 w → FrL K G wB w vs ss →
    ∃ w2, w2.H = w.H ∧ w2.F = w.F ∧ Rel K G w2 (putsE st is ss) (setsS σ is vs) ∧ Step w0 w2
  | [], _, _, w, _, _, r, s, _ => ⟨w, rfl, rfl, by simpa [putsE, setsS] using r, s⟩
  | i :: is, [], [], w, _, _, r, s, _ => ⟨w, rfl, rfl, by simpa [putsE, setsS] using r, s⟩
  | i :: is, v :: vs, x :: ss, w, st, σ, r, s, .cons q n t => by
    cases x with
    | un => exact q.elim
    | fz d =>
      exact Rel.puts ok0 h0 (is := is) (r.store q) s t
    | ml xs =>
      obtain ⟨a, ws, rfl, hn, k, h, q⟩ := q
      obtain ⟨w2, e1, e2, r2, s2⟩ := Rel.puts ok0 h0 (is := is) (r.store_own (i := i) (v := .ml xs) h k ⟨a, ws, rfl, own_self, h, q⟩) (Wd.own_step s (h0 a hn) ok0) (t.own (fun j s' hj ho => n rfl j s' hj ho))
      exact ⟨w2, e1, e2, r2, s2⟩
    | md xs =>
      obtain ⟨a, ws, rfl, hn, k, h, q⟩ := q
      obtain ⟨w2, e1, e2, r2, s2⟩ := Rel.puts ok0 h0 (is := is) (r.store_own (i := i) (v := .md xs) h k ⟨a, ws, rfl, own_self, h, q⟩) (Wd.own_step s (h0 a hn) ok0) (t.own (fun j s' hj ho => n rfl j s' hj ho))
      exact ⟨w2, e1, e2, r2, s2⟩
    | mi c xs =>
      obtain ⟨a, dx, ws, rfl, hn, k, h, q⟩ := q
      obtain ⟨w2, e1, e2, r2, s2⟩ := Rel.puts ok0 h0 (is := is) (r.store_own (i := i) (v := .mi c xs) h k ⟨a, dx, ws, rfl, own_self, h, q⟩) (Wd.own_step s (h0 a hn) ok0) (t.own (fun j s' hj ho => n rfl j s' hj ho))
      exact ⟨w2, e1, e2, r2, s2⟩
theorem Kept.sets : ∀ {is : List Nat} {vs : List V} {σ : L2.St}, (∀ i ∈ is, i ∉ pr) → Kept pr σ (setsS σ is vs)
  | [], _, _, _ => by simp [setsS, Kept.refl]
  | _ :: _, [], _, _ => by simp [setsS, Kept.refl]
  | i :: is, v :: vs, σ, h => (Kept.set (h i List.mem_cons_self)).trans (Kept.sets fun j hj => h j (List.mem_cons_of_mem _ hj))
theorem puts_run {K : PySem.W.Frag} {Dn : Ends} {is : List Nat} {w0 w : Wd} {st : Env} {σ : L2.St} {ml : M (List Sl)} {run : L2.St → Hp → (List V → Hp → Prop) → Prop} (hp : ∀ i ∈ is, i ∉ pr) (h : Snd K G run (FrL K G) W ml) (ok0 : w0.Ok) (r : Rel K G w st σ) (s : Step w0 w)
    (p : PostS K G w0 w.F pr σ W (putsM is ml st) Dn) : run σ w.H fun vs H1 => vs.length = is.length ∧ Dn.nx (setsS σ is vs) H1 := by
  refine Snd.stmt h r s p fun ss vs w1 st1 r1 s1 sw q1 p1 => ?_
  have p1 : PostS K G w0 w1.F pr σ W (if ss.length = is.length then Out.ok Fl.nx (putsE st1 is ss) else .bad) Dn := p1
  by_cases hl : ss.length = is.length
  · rw [if_pos hl] at p1
    obtain ⟨w2, e1, e2, r2, s2⟩ := Rel.puts (is := is) ok0 (fun a ha => s.d a ha) r1 s1 q1
    refine ⟨by rw [q1.length]; exact hl, ?_⟩
    rw [← e1]
    exact p1 w2 _ r2 s2 (by rw [e2]; exact Same.refl _) (Kept.sets hp)
  · rw [if_neg hl] at p1; exact p1.elim
theorem sc_par {i j : Nat} {x y : Str} {a b : Expr} {ml : M (List Sl)} {px py pt : Pos} {kt k2 pt2} (hc : X.calm = true) (hN : X.N.Nodup) (hi : X.N[i]? = some x) (hj : X.N[j]? = some y) (hij : i ≠ j)
    (hx : X.env.scope.names.lookup x = some .local) (hy : X.env.scope.names.lookup y = some .local) (hpi : i ∉ pr) (hpj : j ∉ pr) (h : SndVL G X W [a, b] ml) (ha : PA X [a, b] (RunL X [a, b]))
    (hw : swappedStores [.Tuple [.Name x px, .Name y py] kt pt] (.Tuple [a, b] k2 pt2) X.env = pure (some [x, y]))
    (hs : swapsWithSole [.Tuple [.Name x px, .Name y py] kt pt] (.Tuple [a, b] k2 pt2) pos.line X.env = pure false := by rfl) :
    SndC G X W pr (.Assign [.Tuple [.Name x px, .Name y py] kt pt] (.Tuple [a, b] k2 pt2) pos) (putsM [i, j] ml) := by
  intro w0 w st σ D ok0 r s own p
  refine RunS.of (ps_par hc hN hi hj hij hx hy ha hw hs) ?_
  have h2 := puts_run (run := RunL X [a, b]) (is := [i, j]) (fun k hk => by
    rcases List.mem_cons.mp hk with rfl | hk
    · exact hpi
    · rcases List.mem_cons.mp hk with rfl | hk
      · exact hpj
      · cases hk) h ok0 r s p
  refine RunL.mono h2 fun vs H1 ⟨hl, q⟩ => ?_
  match vs, hl, q with
  | [v, u], _, q => exact ⟨v, u, rfl, q⟩
theorem sc_par3 {i j l : Nat} {x y z : Str} {a b c : Expr} {ml : M (List Sl)} {px py pz pt : Pos} {kt k2 pt2} (hc : X.calm = true) (hN : X.N.Nodup) (hi : X.N[i]? = some x) (hj : X.N[j]? = some y) (hl : X.N[l]? = some z) (hij : i ≠ j) (hil : i ≠ l) (hjl : j ≠ l)
    (hx : X.env.scope.names.lookup x = some .local) (hy : X.env.scope.names.lookup y = some .local) (hz : X.env.scope.names.lookup z = some .local) (hpi : i ∉ pr) (hpj : j ∉ pr) (hpl : l ∉ pr) (h : SndVL G X W [a, b, c] ml) (ha : PA X [a, b, c] (RunL X [a, b, c]))
    (hw : swappedStores [.Tuple [.Name x px, .Name y py, .Name z pz] kt pt] (.Tuple [a, b, c] k2 pt2) X.env = pure (some [x, y, z]))
    (hs : swapsWithSole [.Tuple [.Name x px, .Name y py, .Name z pz] kt pt] (.Tuple [a, b, c] k2 pt2) pos.line X.env = pure false := by rfl) :
    SndC G X W pr (.Assign [.Tuple [.Name x px, .Name y py, .Name z pz] kt pt] (.Tuple [a, b, c] k2 pt2) pos) (putsM [i, j, l] ml) := by
  intro w0 w st σ D ok0 r s own p
  refine RunS.of (ps_par3 hc hN hi hj hl hij hil hjl hx hy hz ha hw hs) ?_
  have h2 := puts_run (run := RunL X [a, b, c]) (is := [i, j, l]) (fun k hk => by
    rcases List.mem_cons.mp hk with rfl | hk
    · exact hpi
    · rcases List.mem_cons.mp hk with rfl | hk
      · exact hpj
      · rcases List.mem_cons.mp hk with rfl | hk
        · exact hpl
        · cases hk) h ok0 r s p
  refine RunL.mono h2 fun vs H1 ⟨hl, q⟩ => ?_
  match vs, hl, q with
  | [v, u, t], _, q => exact ⟨v, u, t, rfl, q⟩
end
end Rz
namespace Rz
open PySem PySem.Spec PyProof.Rows L2
section
variable {G : Nat → Addr} {X : Cx} {W : WX} {pr : List Nat} {x : Str} {pos : Pos}
theorem snd_glI {i : Int} (hm : ∃ t, X.mg x = some (.int i t)) (hg : Gl X x := by rfl) (hd : (x == ("__debug__" : Str)) = false := by decide) : SndD G X W (.Name x pos) (pureM (.int i)) := fun w st σ Q r p => by
  obtain ⟨t, hm⟩ := hm
  exact RunE.of (pe_glob hg hm (v := .int i) ⟨t, rfl⟩ hd) (p _ w r (Step.refl w) (.int i))
theorem snd_glS {z : Str} {cs : List Nat} (hm : ∃ t, X.mg x = some (.str z t)) (hz : z = ⟨cs.toArray⟩) (hg : Gl X x := by rfl) (hd : (x == ("__debug__" : Str)) = false := by decide) : SndD G X W (.Name x pos) (pureM (.str cs)) := fun w st σ Q r p => by
  obtain ⟨t, hm⟩ := hm
  subst hz
  exact RunE.of (pe_glob hg hm (v := .str ⟨cs.toArray⟩) ⟨t, rfl⟩ hd) (p _ w r (Step.refl w) (.str cs))
theorem sc_bad {s : Stmt} : SndC G X W pr s badM := fun w0 w st σ D ok0 r s own p => p.elim
theorem snd_bad {e : Expr} : SndD G X W e badM := fun w st σ Q r p => p.elim
theorem snd_badV {e : Expr} : SndV G X W e badM := fun w st σ Q r p => p.elim
end
section
variable {P : Program} {w : World} {K : PySem.W.Frag} {mg : Str → Option Value} {base : Heap} {k : Nat} {f : Addr} {fd : FuncData} {x qual : Str} {params : Arguments} {body : List Stmt} {scope : Scope} {dvs : List V} {kws : List (Str × V)} {N ps : List Str} {G : Nat → Addr} {io : List Nat} {m : M Fl}
theorem okF_of (F : FunD K x qual params body scope dvs kws f fd) (S : FnScope N ps scope) (hio : ∀ i ∈ io, i < ps.length)
    (hbody : ∀ (cdv : Value) (A : Around) (outer : List PySem.Env) (s : Shared) (H : Hp) (E : XK), Room k (A.deeper (envOfC qual scope s.heap.objs.size f cdv)) → SndB G (cxOf (L2.CX P w) P w K mg base N qual scope f cdv A outer s H E) (WXE E) io body m) :
    FnOk P w K mg base (L2.CX P w) (k + 1) f fd ps (spM K G ps.length io (bodyF N.length io m)) := by
  obtain ⟨oc, od, dV, kV, doc, pm, an, cdv, ct, osl, rfl, lk, hcd, _, _⟩ := F.ex
  exact fnOk_of lk hcd S hio (hbody cdv)
theorem okG_of (F : FunD K x qual params body scope dvs kws f fd) (S : FnScope N ps scope) (hio : ∀ i ∈ io, i < ps.length)
    (hbody : ∀ (cdv : Value) (A : Around) (outer : List PySem.Env) (s : Shared) (H : Hp) (E : XK), Room k (A.deeper (envOfC qual scope s.heap.objs.size f cdv)) → (A.deeper (envOfC qual scope s.heap.objs.size f cdv)).guards = some [] →
      SndB G (cxOf (L2.CX P w) P w K mg base N qual scope f cdv A outer s H E) (WXE E) io body m) :
    FnG P w K mg base (L2.CX P w) (k + 1) f fd ps (spM K G ps.length io (bodyF N.length io m)) := by
  obtain ⟨oc, od, dV, kV, doc, pm, an, cdv, ct, osl, rfl, lk, hcd, _, _⟩ := F.ex
  exact fnG_of lk hcd S hio (hbody cdv)
theorem takes_cx {qual : Str} {scope : Scope} {f : Addr} {cdv : Value} {A : Around} {outer : List PySem.Env} {s : Shared} {H : Hp} {E : XK} : Takes (cxOf (L2.CX P w) P w K mg base N qual scope f cdv A outer s H E) (WXE E) := takes_of rfl rfl rfl rfl
theorem owns_cx {CX : CXT} {qual : Str} {scope : Scope} {f : Addr} {cdv : Value} {A : Around} {outer : List PySem.Env} {s : Shared} {H : Hp} {E : XK} :
    PassesOwn (model P w) (cxOf CX P w K mg base N qual scope f cdv A outer s H E).A (cxOf CX P w K mg base N qual scope f cdv A outer s H E).env (cxOf CX P w K mg base N qual scope f cdv A outer s H E).xe := passes_of rfl
end
section
variable {G : Nat → Addr} {X : Cx} {W : WX} {es : List Expr} {e : Expr} {p pos : Pos} {f : Env → Res} {io : List Nat} {k j : Nat} {fa : Addr} {fd : FuncData} {ps : List Str} {x : Str} {ma : M (List Ag)}
theorem snd_callF (tk : Takes X W) (F : FnOk X.prog X.w X.K X.mg X.base (L2.CX X.prog X.w) j fa fd ps (spM X.K G ps.length io f)) (hr : Room k X.A) (hj : j ≤ k) (hm : X.mg x = some (.ref fa))
    (hk : PySem.W.keepIn X.K (.ref fa) = true) (hb : Binds X.K fd ps []) (hl : SndA G X W (e :: es) ma) (hn : (e :: es).length = ps.length) (ha : PA X (e :: es) (RunL X (e :: es))) (hg : Gl X x := by rfl)
    (hdb : (x == ("__debug__" : Str)) = false := by decide) (he : starEach (e :: es) X.env = (false, eval e X.env) :: starEach es X.env := by rfl) (hpl : (backTo pos (starEach es X.env)).any (·.1) = false := by rfl) :
    SndV G X W (.Call (.Name x p) (e :: es) [] pos) (callM f io ma) := by
  intro w st σ Q r pq; refine ⟨fun pins s I => ?_⟩
  have h1 : RunL X (e :: es) σ w.H fun us H => spM X.K G ps.length io f us H Q (WE W σ) := by
    refine RunL.len ?_
    rw [hn]
    exact args_then hl r pq ps.length
  refine wpAny_Call_Name_kw (ld_glob I hg hm ?_ hdb)
  refine PySem.W.callWith_K (h₀ := X.base) I.ok.mod.kin hk (thn (ha.run pos pins s σ w.H _ I h1) fun us s1 ⟨vs, H1, I1, r, q⟩ => ⟨I1.kIn, ?_⟩) he hpl
  exact run_fnS (E := fun σ => WE W σ) F (hr.mono hj) hb (passAt tk σ) I1 r q
theorem snd_callG (tk : Takes X W) (F : FnG X.prog X.w X.K X.mg X.base (L2.CX X.prog X.w) j fa fd ps (spM X.K G ps.length io f)) (hr : Room k X.A) (hj : j ≤ k) (hgd : X.A.guards = some []) (hm : X.mg x = some (.ref fa))
    (hk : PySem.W.keepIn X.K (.ref fa) = true) (hb : Binds X.K fd ps []) (hl : SndA G X W (e :: es) ma) (hn : (e :: es).length = ps.length) (ha : PA X (e :: es) (RunL X (e :: es))) (hg : Gl X x := by rfl)
    (hdb : (x == ("__debug__" : Str)) = false := by decide) (he : starEach (e :: es) X.env = (false, eval e X.env) :: starEach es X.env := by rfl) (hpl : (backTo pos (starEach es X.env)).any (·.1) = false := by rfl) :
    SndV G X W (.Call (.Name x p) (e :: es) [] pos) (callM f io ma) := snd_call tk F (hr.mono hj) hgd hg hm hk hb hl hn ha hdb he hpl
end
structure FnH (P : Program) (w : World) (K : PySem.W.Frag) (mg : Str → Option Value) (base : Heap) (G : Nat → Addr) (k : Nat) (x : Str) (n : Nat) (io : List Nat) (f : Env → Res) : Prop where
  ex : ∃ (fa : Addr) (fd : FuncData) (ps : List Str), mg x = some (.ref fa) ∧ PySem.W.keepIn K (.ref fa) = true ∧ Binds K fd ps [] ∧ ps.length = n ∧ FnOk P w K mg base (L2.CX P w) k fa fd ps (spM K G n io f)
structure FnHG (P : Program) (w : World) (K : PySem.W.Frag) (mg : Str → Option Value) (base : Heap) (G : Nat → Addr) (k : Nat) (x : Str) (n : Nat) (io : List Nat) (f : Env → Res) : Prop where
  ex : ∃ (fa : Addr) (fd : FuncData) (ps : List Str), mg x = some (.ref fa) ∧ PySem.W.keepIn K (.ref fa) = true ∧ Binds K fd ps [] ∧ ps.length = n ∧ FnG P w K mg base (L2.CX P w) k fa fd ps (spM K G n io f)
section
variable {P : Program} {w : World} {K : PySem.W.Frag} {mg : Str → Option Value} {base : Heap} {k : Nat} {f : Addr} {fd : FuncData} {x qual : Str} {params : Arguments} {body : List Stmt} {scope : Scope} {N ps : List Str} {G : Nat → Addr} {io : List Nat} {m : M Fl}
theorem FnH.of (F : FunD K x qual params body scope [] [] f fd) (S : FnScope N ps scope) (hio : ∀ i ∈ io, i < ps.length) (hm : mg x = some (.ref f))
    (h : ∀ (kV doc pm : Value) (an : Option Addr) (cdv ct : Value) (us : List Value), us.length = ps.length → bindArgs (PySem.W.fnOf x qual params body scope .none kV doc pm an cdv ct) ⟨us, []⟩ = pure (ps.zip us))
    (hbody : ∀ (cdv : Value) (A : Around) (outer : List PySem.Env) (s : Shared) (H : Hp) (E : XK), Room k (A.deeper (envOfC qual scope s.heap.objs.size f cdv)) → SndB G (cxOf (L2.CX P w) P w K mg base N qual scope f cdv A outer s H E) (WXE E) io body m) :
    FnH P w K mg base G (k + 1) x ps.length io (bodyF N.length io m) :=
  ⟨⟨f, fd, ps, hm, F.kp, F.bindsN h, rfl, okF_of F S hio hbody⟩⟩
theorem FnHG.of (F : FunD K x qual params body scope [] [] f fd) (S : FnScope N ps scope) (hio : ∀ i ∈ io, i < ps.length) (hm : mg x = some (.ref f))
    (h : ∀ (kV doc pm : Value) (an : Option Addr) (cdv ct : Value) (us : List Value), us.length = ps.length → bindArgs (PySem.W.fnOf x qual params body scope .none kV doc pm an cdv ct) ⟨us, []⟩ = pure (ps.zip us))
    (hbody : ∀ (cdv : Value) (A : Around) (outer : List PySem.Env) (s : Shared) (H : Hp) (E : XK), Room k (A.deeper (envOfC qual scope s.heap.objs.size f cdv)) → (A.deeper (envOfC qual scope s.heap.objs.size f cdv)).guards = some [] →
      SndB G (cxOf (L2.CX P w) P w K mg base N qual scope f cdv A outer s H E) (WXE E) io body m) :
    FnHG P w K mg base G (k + 1) x ps.length io (bodyF N.length io m) :=
  ⟨⟨f, fd, ps, hm, F.kp, F.bindsN h, rfl, okG_of F S hio hbody⟩⟩
end
section
variable {G : Nat → Addr} {X : Cx} {W : WX} {es : List Expr} {e : Expr} {p pos : Pos} {f : Env → Res} {io : List Nat} {k j n : Nat} {x : Str} {ma : M (List Ag)}
theorem snd_callH (tk : Takes X W) (F : FnH X.prog X.w X.K X.mg X.base G j x n io f) (hr : Room k X.A) (hj : j ≤ k) (hl : SndA G X W (e :: es) ma) (hn : (e :: es).length = n) (ha : PA X (e :: es) (RunL X (e :: es))) (hg : Gl X x := by rfl)
    (hdb : (x == ("__debug__" : Str)) = false := by decide) (he : starEach (e :: es) X.env = (false, eval e X.env) :: starEach es X.env := by rfl) (hpl : (backTo pos (starEach es X.env)).any (·.1) = false := by rfl) :
    SndV G X W (.Call (.Name x p) (e :: es) [] pos) (callM f io ma) := by
  obtain ⟨fa, fd, ps, hm, hk, hb, hl2, F⟩ := F.ex
  subst hl2
  exact snd_callF tk F hr hj hm hk hb hl hn ha hg hdb he hpl
theorem snd_callHG (tk : Takes X W) (F : FnHG X.prog X.w X.K X.mg X.base G j x n io f) (hr : Room k X.A) (hj : j ≤ k) (hgd : X.A.guards = some []) (hl : SndA G X W (e :: es) ma) (hn : (e :: es).length = n) (ha : PA X (e :: es) (RunL X (e :: es))) (hg : Gl X x := by rfl)
    (hdb : (x == ("__debug__" : Str)) = false := by decide) (he : starEach (e :: es) X.env = (false, eval e X.env) :: starEach es X.env := by rfl) (hpl : (backTo pos (starEach es X.env)).any (·.1) = false := by rfl) :
    SndV G X W (.Call (.Name x p) (e :: es) [] pos) (callM f io ma) := by
  obtain ⟨fa, fd, ps, hm, hk, hb, hl2, F⟩ := F.ex
  subst hl2
  exact snd_callG tk F hr hj hgd hm hk hb hl hn ha hg hdb he hpl
end
end Rz
namespace Rz
open PySem PySem.Spec PyProof.Rows L2
theorem un65 {k : Nat} {A : Around} (r : Room k A) : A.units + 65 < cLine := by have := r.un; omega
theorem un1 {k : Nat} {A : Around} (r : Room k A) : A.units + 1 < cLine := by have := r.un; omega
theorem prs {n : Nat} {vs pr : List Nat} (h : (List.range n).all (fun j => vs.contains j || pr.contains j) = true) : ∀ j, j < n → j ∉ vs → j ∈ pr := fun j hj hn => by
  have q := List.all_eq_true.mp h j (List.mem_range.mpr hj)
  rw [Bool.or_eq_true] at q
  rcases q with q | q
  · exact absurd (by simpa using q) hn
  · simpa using q
end Rz
namespace Rz
open PySem PySem.Spec PyProof.Rows L2
section
variable {G : Nat → Addr} {X : Cx} {W : WX} {pr : List Nat} {e : Expr} {pos : Pos}
theorem sc_exD {m : M D} (h : SndD G X W e m) (hs : swapsWith e none pos.line X.env = pure false := by rfl) : SndC G X W pr (.Expr e pos) (drpM m) := sc_expr (β := V) h hs
theorem sc_exV {m : M Sl} (h : SndV G X W e m) (hs : swapsWith e none pos.line X.env = pure false := by rfl) : SndC G X W pr (.Expr e pos) (drpM m) := sc_expr (β := V) h hs
end
end Rz
namespace Rz
open PySem PySem.Spec PyProof.Rows L2
structure FnA (P : Program) (w : World) (K : PySem.W.Frag) (mg : Str → Option Value) (base : Heap) (G : Nat → Addr) (k : Nat) (fa : Addr) (n : Nat) (io : List Nat) (f : Env → Res) : Prop where
  ex : ∃ (fd : FuncData) (ps : List Str), PySem.W.fnIn K fa = true ∧ PySem.W.isFn K (.ref fa) = true ∧ PySem.W.keepIn K (.ref fa) = true ∧ Binds K fd ps [] ∧ ps.length = n ∧ FnOk P w K mg base (L2.CX P w) k fa fd ps (spM K G n io f)
section
variable {G : Nat → Addr} {X : Cx} {W : WX} {e : Expr} {es : List Expr} {pos apos : Pos} {f : Env → Res} {io : List Nat} {k j n : Nat} {fa : Addr}
theorem run_fnA {pins : List (Addr × Obj)} {σ : L2.St} {H : Hp} {s : Shared} {Q : VK} {us : List Value} {vs : List V} {E : XK} (F : FnA X.prog X.w X.K X.mg X.base G j fa n io f) (hr : Room k X.A) (hj : j ≤ k) (hx : PassesAt (L2.CX X.prog X.w) X σ E)
    (I : Inv X pins σ H s) (r : Vals vs us) (h : spM X.K G n io f vs H Q E) : codeAny (model X.prog X.w) X.A (.call (.ref fa) ⟨us, []⟩) (wants (EP X pins σ Q) X.xe) s := by
  obtain ⟨fd, ps, h1, h2, h3, hb, hl, F⟩ := F.ex
  subst hl
  have hl : us.length = ps.length := by rw [← r.length]; exact F.len _ _ _ _ h
  have b := hb s us I.kIn (by rw [List.append_nil]; exact hl)
  rw [List.append_nil] at b
  refine codeAny_mono (F.run X.A X.stack s H ⟨us, []⟩ us vs Q E (hr.mono hj) I.env0 b r h) fun r s' hq => ?_
  cases r with
  | error e => exact hx pins H s e s' I hq
  | ok fl =>
    cases fl with
    | ret u => exact I.after hq
    | next => exact False.elim hq
    | brk => exact False.elim hq
    | cont => exact False.elim hq
end
def MethOk (P : Program) (w : World) (K : PySem.W.Frag) (mg : Str → Option Value) (base : Heap) (G : Nat → Addr) (k : Nat) (cs : List Nat) (m : Str) (n : Nat) (io : List Nat) (f : Nat → Env → Res) : Prop :=
  ∀ c ∈ cs, ∃ fa, Cls K (G c) ∧ Meth K (G c) m fa ∧ FnA P w K mg base G k fa n io (f c)
def noFld (m : Str) (fs : List (Str × D)) : Bool := (fs.lookup m).isNone
theorem RepF.lookup {K : PySem.W.Frag} {G : Nat → Addr} {F : Hp} {m : Str} : ∀ {vs : List (Str × V)} {fs : List (Str × D)}, RepF K G F vs fs → (fs.lookup m = none ∧ vs.lookup m = none) ∨ ∃ v d, fs.lookup m = some d ∧ vs.lookup m = some v ∧ Rep K G F v d
  | _, _, .nil => .inl ⟨rfl, rfl⟩
  | _, _, .cons (k := k) (v := v) (vs := vs) (d := d) (ds := ds) r t => by
    by_cases h : m = k
    · subst h
      exact .inr ⟨v, d, by simp [List.lookup], by simp [List.lookup], r⟩
    · have hb : (m == k) = false := beq_eq_false_iff_ne.mpr h
      rcases RepF.lookup (m := m) t with ⟨h1, h2⟩ | ⟨v', d', h1, h2, h3⟩
      · exact .inl ⟨by simp [List.lookup, hb, h1], by simp [List.lookup, hb, h2]⟩
      · exact .inr ⟨v', d', by simp [List.lookup, hb, h1], by simp [List.lookup, hb, h2], h3⟩
def preA (g : Ag) (ma : M (List Ag)) : M (List Ag) := fun st => (ma st).bind fun as => pureM (g :: as)
theorem callM_pre {f : Env → Res} {io : List Nat} {g : Ag} {ma : M (List Ag)} {st : Env} : callM f io (preA g ma) st = (match ma st with
    | .ok as st1 => callM f io (pureM (g :: as)) st1
    | .exc x s => .exc x s
    | .bad => .bad) := by
  unfold callM preA
  cases ma st <;> rfl
def methM (cs : List Nat) (m : Str) (f : Nat → Env → Res) (io : List Nat) (mo : M D) (ma : M (List Ag)) : M Sl := bindM mo fun o => match o with
  | .ins c fs => if cs.contains c && noFld m fs then callM (f c) io (preA (.d (.ins c fs)) ma) else badM
  | _ => badM
section
variable {G : Nat → Addr} {X : Cx} {W : WX} {o e : Expr} {es : List Expr} {pos apos : Pos} {f : Nat → Env → Res} {io : List Nat} {k j n : Nat} {cs : List Nat} {m : Str} {mo : M D} {ma : M (List Ag)}
theorem snd_meth {pl : Sem Bool} (tk : Takes X W) (F : MethOk X.prog X.w X.K X.mg X.base G j cs m n io f) (hr : Room k X.A) (hj : j ≤ k) (ho : SndD G X W o mo) (hl : SndA G X W (e :: es) ma) (hn : (e :: es).length + 1 = n) (ha : PA X (e :: es) (RunL X (e :: es)))
    (hst : starEach (e :: es) X.env = (false, eval e X.env) :: starEach es X.env := by rfl) (hpl : (backTo pos (starEach es X.env)).any (·.1) = false := by rfl)
    (ht : eval (.Call (.Attribute o m apos) (e :: es) [] pos) X.env = (do
      let ov ← eval o X.env
      standAt apos.atName
      let (f, first) ← holding [ov] (getMethod ov m pl)
      callWith pos f first (backTo pos (starEach (e :: es) X.env)) (backToKw pos (keywordEach [] X.env))) := by rfl) :
    SndV G X W (.Call (.Attribute o m apos) (e :: es) [] pos) (methM cs m f io mo ma) := by
  intro w st σ Q r p; refine ⟨fun pins s I => ?_⟩
  have h1 : RunE X o σ w.H fun x H1 => ∃ w1 st1 c fs, w1.H = H1 ∧ Rel X.K G w1 st1 σ ∧ Rep X.K G w1.F x (.ins c fs) ∧ c ∈ cs ∧ noFld m fs = true ∧
      Post X.K G (RV X.K G) w1 σ W (callM (f c) io (preA (.d (.ins c fs)) ma) st1) Q := by
    refine Snd.bind (run1 := RunE X o) ho older_V r p fun d u w1 st1 r1 s1 q1 p1 => ?_
    cases d with
    | ins c fs =>
      have p1 : Post X.K G (RV X.K G) w1 σ W ((if cs.contains c && noFld m fs then callM (f c) io (preA (.d (.ins c fs)) ma) else badM : M Sl) st1) Q := p1
      cases hc : (cs.contains c && noFld m fs) with
      | true =>
        rw [hc] at p1
        obtain ⟨h1, h2⟩ := Bool.and_eq_true_iff.mp hc
        exact ⟨w1, st1, c, fs, rfl, r1, q1, by simpa using h1, h2, p1⟩
      | false => rw [hc] at p1; exact p1.elim
    | _ => exact p1.elim
  refine PySem.W.methodCall_KW (pl := pl) (thn (h1 pins s I) fun u s1 ⟨x, H1, I1, rx, w1, st1, c, fs, eH, r1, q1, hc, hnf, p1⟩ => ?_) ht
  subst eH
  obtain ⟨fa, hcls, hm, FA⟩ := F c hc
  have q1' := q1
  cases q1 with
  | @ins a dx _ fsV _ hF rF =>
    obtain rfl : u = Value.ref a := rx
    have hnone : fsV.lookup m = none := by
      rcases rF.lookup (m := m) with ⟨_, h2⟩ | ⟨_, d, h1, _, _⟩
      · exact h2
      · unfold noFld at hnf; rw [h1] at hnf; cases hnf
    refine getmeth_ok I1 (r1.ok.sub _ _ hF) hcls hm hnone ?_
    have hA : RunL X (e :: es) σ w1.H fun us H => spM X.K G n io (f c) (.ref a :: us) H Q (WE W σ) := by
      refine RunL.len ?_
      refine hl w1 st1 σ _ r1 ?_
      rw [callM_pre] at p1
      cases e1 : ma st1 with
      | bad => rw [e1] at p1; exact p1
      | exc y st2 => rw [e1] at p1; exact p1
      | ok as st2 =>
        rw [e1] at p1
        intro us w2 r2 s2 q2 hlen
        have p1 : Post X.K G (RV X.K G) w1 σ W (if agsOk st2 (.d (.ins c fs) :: as) io = true then (match f c ((Ag.d (.ins c fs) :: as).map (slOf st2)) with
          | .ret v o => if o.length = io.length then Out.ok v (backs st2 (.d (.ins c fs) :: as) io o) else .bad
          | .exc x o => if o.length = io.length then .exc x (backs st2 (.d (.ins c fs) :: as) io o) else .bad
          | .bad => .bad) else .bad) Q := p1
        by_cases hk : agsOk st2 (.d (.ins c fs) :: as) io = true
        · rw [if_pos hk] at p1
          exact sp_of (w0 := w1) (vs := .ref a :: us) (as := .d (.ins c fs) :: as) r2 (.cons (show AgR X.K G σ w2 (.ref a) (.d (.ins c fs)) from Rep.mono s2.f q1') q2) hk n (by rw [List.length_cons, hlen]; exact hn) (Post.shift r2.ok s2 older_V p1)
        · rw [if_neg hk] at p1; exact p1.elim
    refine PySem.W.callWith_K (first := [.ref a]) (h₀ := X.base) I1.ok.mod.kin hm.kp (thn (ha.run pos pins s1 σ w1.H _ I1 hA) fun us s2 ⟨vs, H2, I2, rv, q2⟩ => ⟨I2.kIn, ?_⟩) hst hpl
    exact wpAny_call (run_fnA (us := .ref a :: us) (vs := .ref a :: vs) FA hr hj (passAt tk σ) I2 (.cons rfl rv) q2)
end
def FldOk (K : PySem.W.Frag) (G : Nat → Addr) (cs : List Nat) (f : Str) : Prop := ∀ c ∈ cs, Cls K (G c) ∧ NoAttr K (G c) f
def dFld (cs : List Nat) (f : Str) : D → Option D
  | .ins c fs => if cs.contains c then fs.lookup f else none
  | _ => none
section
variable {G : Nat → Addr} {X : Cx} {W : WX} {a : Expr} {pos : Pos} {cs : List Nat} {f : Str} {ml : M (List D)}
theorem repB_ins {w : Wd} (ok : w.Ok) {v : V} {c : Nat} {fs : List (Str × D)} (h : RepB X.K G w v (.ins c fs)) : ∃ a dx vs, v = .ref a ∧ w.H a = some (.ins (G c) dx vs) ∧ RepF X.K G w.F vs fs := by
  cases h with
  | fz h => cases h with | ins q r => exact ⟨_, _, _, rfl, ok.sub _ _ q, r⟩
  | mi h r => exact ⟨_, _, _, rfl, h, r⟩
theorem snd_fld (hF : FldOk X.K G cs f) (hl : SndL G X W [a] ml) (hb : attributeBase a f X.env (eval a X.env) = eval a X.env := by rfl) : SndD G X W (.Attribute a f pos) (op1M (dFld cs f) ml) := by
  intro w st σ Q r p
  refine RunE.of (pe_fld pe_run hb) ?_
  have h := Snd.bind (run1 := RunL X [a]) (Q1 := fun vs H => match vs with | [x] => ∃ a C dx fs v, x = .ref a ∧ H a = some (.ins C dx fs) ∧ Cls X.K C ∧ NoAttr X.K C f ∧ fs.lookup f = some v ∧ Q v H | _ => False) hl older_D r p fun ds us w1 st1 r1 s1 q1 p1 => ?_
  · exact h
  · cases q1 with
    | nil => exact p1.elim
    | @cons x xs d ds b1 q1 =>
      cases q1 with
      | nil =>
        have p2 : Post X.K G (RD X.K G) w1 σ W ((liftM (dFld cs f d) : M D) st1) Q := p1
        cases eg : dFld cs f d with
        | none => rw [eg] at p2; exact p2.elim
        | some z =>
          rw [eg] at p2
          cases d with
          | ins c fs =>
            have eg : (if cs.contains c then fs.lookup f else none) = some z := eg
            split at eg
            · rename_i hc
              obtain ⟨a0, dx, vs, rfl, hH, rF⟩ := repB_ins r1.ok b1
              obtain ⟨h1, h2⟩ := hF c (by simpa using hc)
              rcases rF.lookup (m := f) with ⟨h3, _⟩ | ⟨v, d, h3, h4, h5⟩
              · rw [h3] at eg; cases eg
              · rw [h3] at eg; cases eg
                exact ⟨a0, G c, dx, vs, v, rfl, hH, h1, h2, h4, p2 v w1 r1 (Step.refl _) h5⟩
            · cases eg
          | _ => cases eg
      | cons _ _ => exact p1.elim
end
end Rz
namespace Rz
open PySem PySem.Spec PyProof.Rows L2 NdefX
def RunBA (X : Cx) (b0 : List Stmt) (st : List Stmt) (D : Ends) (σ : L2.St) (H : Hp) : Prop := ∀ pins s, Inv X pins σ H s → PySem.wpAt (model X.prog X.w) X.A (.func b0 X.env) (execs st X.env) (SP X pins D) X.xe s
def RunSA (X : Cx) (b0 : List Stmt) (st : Stmt) (D : Ends) (σ : L2.St) (H : Hp) : Prop := ∀ pins s, Inv X pins σ H s → PySem.wpAt (model X.prog X.w) X.A (.func b0 X.env) (exec st X.env) (SP X pins D) X.xe s
def RunEA (X : Cx) (b0 : List Stmt) (e : Expr) (σ : L2.St) (H : Hp) (Q : VK) : Prop := ∀ pins s, Inv X pins σ H s → PySem.wpAt (model X.prog X.w) X.A (.func b0 X.env) (eval e X.env) (EP X pins σ Q) X.xe s
section
variable (G : Nat → Addr) (X : Cx) (W : WX) (pr : List Nat) (b0 : List Stmt)
def SndBA (s : List Stmt) (m : M Fl) : Prop := ∀ w0 w st σ D, w0.Ok → Rel X.K G w st σ → Step w0 w → (∀ a i, w0.k a = .own i → i ∈ pr) → PostS X.K G w0 w.F pr σ W (m st) D → RunBA X b0 s D σ w.H
def SndCA (s : Stmt) (m : M Fl) : Prop := ∀ w0 w st σ D, w0.Ok → Rel X.K G w st σ → Step w0 w → (∀ a i, w0.k a = .own i → i ∈ pr) → PostS X.K G w0 w.F pr σ W (m st) D → RunSA X b0 s D σ w.H
def SndVA (e : Expr) (m : M Sl) : Prop := Snd X.K G (RunEA X b0 e) (RV X.K G) W m
end
section
variable {G : Nat → Addr} {X : Cx} {W : WX} {pr : List Nat} {b0 : List Stmt} {e : Expr} {s : Stmt} {ss : List Stmt} {pos pos' : Pos}
theorem sba_of {m : M Fl} (h : SndB G X W pr ss m) : SndBA G X W pr b0 ss m := fun w0 w st σ D ok0 r s own p pins u I => PySem.wpAt_of_wpAny (h w0 w st σ D ok0 r s own p pins u I)
theorem sca_of {m : M Fl} (h : SndC G X W pr s m) : SndCA G X W pr b0 s m := fun w0 w st σ D ok0 r s own p pins u I => PySem.wpAt_of_wpAny (h w0 w st σ D ok0 r s own p pins u I)
theorem sba_cons {s₀ : Stmt} {m m' : M Fl} (h : SndCA G X W pr b0 s₀ m) (h' : SndBA G X W pr b0 ss m') : SndBA G X W pr b0 (s₀ :: ss) (seqM m m') := by
  intro w0 w st σ D ok0 r s own p pins u I
  refine PySem.ks_wpAt_execs_cons ?_
  have h1 : RunSA X b0 s₀ { D with nx := RunBA X b0 ss D } σ w.H := by
    refine h w0 w st σ { D with nx := RunBA X b0 ss D } ok0 r s own ?_
    unfold seqM at p
    cases q : m st with
    | ok f st' =>
      rw [q] at p
      cases f with
      | nx => exact fun w' σ' r' s' f k => h' w0 w' st' σ' D ok0 r' s' own (PostS.shift p f k)
      | bk => exact p
      | ct => exact p
      | rt v => exact p
    | exc x st' => rw [q] at p; exact p
    | bad => rw [q] at p; exact p
  refine PySem.wpAt_mono (h1 pins u I) (fun f s' hq => ?_) fun _ _ z => z
  cases f with
  | next =>
    obtain ⟨σ', H', I', q⟩ := hq
    exact q pins s' I'
  | ret u => exact hq
  | brk => exact hq
  | cont => exact hq
theorem sba_one {m : M Fl} (h : SndCA G X W pr b0 s m) : SndBA G X W pr b0 [s] m := by
  have q := sba_cons (ss := []) h (sba_of (b0 := b0) sb_nil)
  intro w0 w st σ D ok0 r s own p
  refine q w0 w st σ D ok0 r s own ?_
  unfold seqM
  cases e : m st with
  | ok f st' => rw [e] at p; cases f <;> exact p
  | exc x st' => rw [e] at p; exact p
  | bad => rw [e] at p; exact p
theorem sca_ret {m : M Sl} (h : SndVA G X W b0 e m) : SndCA G X W pr b0 (.Return (some e) pos) (retM m) := by
  intro w0 w st σ D ok0 r s own p pins u I
  refine PySem.ks_wpAt_Return_some ?_
  have h1 : RunEA X b0 e σ w.H fun v H1 => D.rt v H1 := Snd.stmt (run1 := RunEA X b0 e) h r s p fun d u w1 st1 r1 s1 _ q1 p1 => p1 u w1 σ r1 s1 (Same.refl _) (Kept.refl _ _) (older_V _ _ _ _ _ s q1)
  exact PySem.wpAt_mono (h1 pins u I) (fun v s' ⟨x, H', I', r', q⟩ => ⟨x, σ, H', I', r', q⟩) fun _ _ z => z
theorem sca_exp {m : M Sl} (h : SndVA G X W b0 e m) (hi : PySem.interactive X.env = false := by rfl) (hs : swapsWith e none pos.line X.env = pure false := by rfl) : SndCA G X W pr b0 (.Expr e pos) (drpM m) := by
  intro w0 w st σ D ok0 r s own p pins u I
  refine PySem.ks_wpAt_Expr_any ?_ hi hs
  have h1 : RunEA X b0 e σ w.H fun v H1 => D.nx σ H1 := Snd.stmt (run1 := RunEA X b0 e) h r s p fun d u w1 st1 r1 s1 _ q1 p1 => p1 w1 σ r1 s1 (Same.refl _) (Kept.refl _ _)
  exact PySem.wpAt_mono (h1 pins u I) (fun v s' ⟨x, H', I', r', q⟩ => ⟨σ, H', I', q⟩) fun _ _ z => z
theorem sca_put {i : Nat} {x : Str} {m : M Sl} (hN : X.N.Nodup) (hi : X.N[i]? = some x) (hx : X.env.scope.names.lookup x = some .local) (hp : i ∉ pr) (h : SndVA G X W b0 e m) (hs : swapsWith e (some (.Name x pos')) pos.line X.env = pure false := by rfl) :
    SndCA G X W pr b0 (.Assign [.Name x pos'] e pos) (putM i m) := by
  intro w0 w st σ D ok0 r s own p pins u I
  refine PySem.ks_wpAt_Assign_Name ?_ hs
  have h1 : RunEA X b0 e σ w.H fun v H1 => D.nx (σ.set i (some v)) H1 := Snd.stmt (run1 := RunEA X b0 e) h r s p fun d u w1 st1 r1 s1 _ q1 p1 => by
    obtain ⟨w2, e2, f2, r2, s2⟩ := r1.put ok0 r.ok s s1 (i := i) q1
    show D.nx (σ.set i (some u)) w1.H
    rw [← e2]
    exact p1 w2 _ r2 s2 (by rw [f2]; exact Same.refl _) (Kept.set hp)
  exact PySem.wpAt_mono (h1 pins u I) (fun v s' ⟨x, H', I', r', q⟩ => store_ok I' hN hi (Or.inl hx) r' (fun s2 I2 => ⟨_, H', I2, q⟩) (Or.inr hx)) fun _ _ z => z
end
section
variable {K : PySem.W.Frag} {G : Nat → Addr} {w : Wd}
theorem rel_startF {N : List Str} {vs : List V} {ws : List (Option V)} {args : Env} (ok : w.Ok) (h : ArgR K G w vs args) (hl : vs.length + ws.length ≤ N.length) : Rel K G w (args ++ List.replicate (N.length - args.length) .un) (startF N vs ws) := by
  obtain ⟨h1, h2, h3⟩ := h
  have hlen : (startF N vs ws).length = N.length := by
    unfold startF
    simp
    omega
  refine ⟨ok, by rw [hlen]; simp; omega, fun i s e => ?_, h3⟩
  by_cases hi : i < args.length
  · rw [List.getElem?_append_left hi] at e
    obtain ⟨v, ev, r⟩ := h2 i s e
    refine ⟨some v, ?_, r⟩
    unfold startF
    rw [List.getElem?_append_left (by simp; omega), List.getElem?_map, ev]; rfl
  · rw [List.getElem?_append_right (by omega), List.getElem?_replicate] at e
    split at e
    · cases e
      have : i < (startF N vs ws).length := by rw [hlen]; omega
      exact ⟨_, List.getElem?_eq_getElem this, trivial⟩
    · cases e
theorem out_ofF {N : List Str} {vs : List V} {ws : List (Option V)} {io : List Nat} {st : Env} {σ' : L2.St} {w' : Wd} (hio : ∀ i ∈ io, i < vs.length) (r : Rel K G w' st σ') (k : Kept io (startF N vs ws) σ') : OutR K G w' vs io (outs io st) := by
  intro j i s hj hs
  unfold outs at hs
  rw [List.getElem?_map, hj] at hs
  have hs : (st[i]?).getD .un = s := by simpa using hs
  have hi := hio i (List.mem_of_getElem? hj)
  have e1 : σ'[i]? = some (some (vs[i])) := by
    rw [k i (List.mem_of_getElem? hj)]
    unfold startF
    rw [List.getElem?_append_left (by simpa using hi), List.getElem?_map, List.getElem?_eq_getElem hi]; rfl
  refine ⟨vs[i], List.getElem?_eq_getElem hi, ?_⟩
  cases e : st[i]? with
  | none => rw [e] at hs; subst hs; trivial
  | some s' =>
    rw [e] at hs
    have hs : s' = s := hs
    subst hs
    obtain ⟨x, hx, q⟩ := r.at_ i s' e
    rw [e1] at hx
    cases hx
    exact q
theorem body_runA {X : Cx} {N ps : List Str} {ws : List (Option V)} {io : List Nat} {b0 body : List Stmt} {m : M Fl} {vs : List V} {H : Hp} {Q : VK} {E : XK} (hN : ps.length + ws.length ≤ N.length) (hio : ∀ i ∈ io, i < ps.length) (hb : SndBA G X (WXE E) io b0 body m)
    (h : spM X.K G ps.length io (bodyF N.length io m) vs H Q E) : RunBA X b0 body { nx := fun _ H' => Q .non H', rt := Q } (startF N vs ws) H := by
  obtain ⟨hl, w, args, rfl, ok, ar, own, h⟩ := h
  have r := rel_startF (ws := ws) ok ar (by omega : vs.length + ws.length ≤ N.length)
  have hio' : ∀ i ∈ io, i < vs.length := fun i hi => by rw [hl]; exact hio i hi
  refine hb w w _ _ _ ok r (Step.refl w) own ?_
  unfold bodyF at h
  cases e : m (args ++ List.replicate (N.length - args.length) .un) with
  | bad => rw [e] at h; exact h
  | exc x st =>
    rw [e] at h
    exact fun c d w' σ' r' s' f k q => h c d w' r'.ok s' q (out_ofF hio' r' k)
  | ok fl st =>
    rw [e] at h
    cases fl with
    | nx => exact fun w' σ' r' s' f k => h .non w' r'.ok s' .non (out_ofF hio' r' k)
    | rt v => exact fun u w' σ' r' s' f k q => h u w' r'.ok s' q (out_ofF hio' r' k)
    | bk => exact h.elim
    | ct => exact h.elim
end
section
variable {P : Program} {w : World} {K : PySem.W.Frag} {mg : Str → Option Value} {base : Heap} {k : Nat} {f cc cda Dd : Addr} {name qual : Str} {params : Arguments} {body : List Stmt} {scope : Scope} {dV kV doc pm ct oc cl : Value} {an od cld : Option Addr}
    {osl csl : Array (Option Value)} {N ps : List Str} {G : Nat → Addr} {io : List Nat} {m : M Fl}
abbrev nfC (name qual : Str) (params : Arguments) (body : List Stmt) (scope : Scope) (cc cda : Addr) : NF := ⟨name, qual, params, body, scope, [("__class__", cc)], cda⟩
theorem cells_cls {s : Shared} {H : Hp} {A : Around} {outer : List PySem.Env} (e0 : Env0 P w K mg base A outer s H) (lc : K.lookup cc = some ⟨cl, cld, .cell (some (.ref Dd)), csl⟩) : CellsAt [("__class__", cc)] ["__class__"] [some (.ref Dd)] s.heap H := by
  have hb := e0.mod.kin cc _ lc
  have h1 := e0.bs cc _ hb
  have key : ∀ (y : Str) (c : Addr), List.lookup y [(("__class__" : Str), cc)] = some c → y = "__class__" ∧ c = cc := fun y c e => by
    by_cases h : y = "__class__"
    · subst h
      simp [List.lookup] at e
      exact ⟨rfl, e.symm⟩
    · have hb : (y == ("__class__" : Str)) = false := beq_eq_false_iff_ne.mpr h
      simp [List.lookup, hb] at e
  refine ⟨rfl, fun y c e => ?_, fun x y c e1 e2 => ?_, fun i y hi => ?_⟩
  · obtain ⟨rfl, rfl⟩ := key y c e
    exact ⟨h1.2, _, _, h1.1, rfl⟩
  · rw [(key x c e1).1, (key y c e2).1]
  · cases i with
    | zero =>
      have hi : y = "__class__" := by simpa using hi.symm
      subst hi
      refine ⟨cc, by simp [List.lookup], fun v hv => ?_⟩
      have hv : V.ref Dd = v := by simpa using hv
      subst hv
      exact ⟨.ref Dd, rfl, _, h1.1, rfl⟩
    | succ i => simp at hi
theorem fnC_of (lk : K.lookup f = some ⟨oc, od, .func (PySem.W.fnX name qual params body scope [("__class__", cc)] dV kV doc pm an (.ref cda) ct), osl⟩) (hcd : PySem.W.codeIn K (.ref cda) qual = true) (lc : K.lookup cc = some ⟨cl, cld, .cell (some (.ref Dd)), csl⟩)
    (S : NScope N ps ["__class__"] scope) (hio : ∀ i ∈ io, i < ps.length)
    (hbody : ∀ (A : Around) (outer : List PySem.Env) (s : Shared) (H : Hp) (E : XK), Room k (A.deeper (envF (nfC name qual params body scope cc cda) f s.heap.objs.size)) → SndBA G (ncx (L2.CX P w) P w K mg base N (nfC name qual params body scope cc cda) f A outer s H E) (WXE E) io body body m) :
    FnOk P w K mg base (L2.CX P w) (k + 1) f (PySem.W.fnX name qual params body scope [("__class__", cc)] dV kV doc pm an (.ref cda) ct) ps (spM K G ps.length io (bodyF N.length io m)) := by
  have hN : ps.length + 1 ≤ N.length := by
    have q := congrArg List.length S.pre
    rw [List.length_take, List.length_append] at q
    simp at q
    omega
  refine ⟨fun vs H Q E h => h.1, fun A outer s H args us vs Q E hr e0 hb r hsp => ?_⟩
  have hl : vs.length = ps.length := hsp.1
  have KX : K.In s.heap := e0.mod.kin.keeps fun b o e => (e0.bs b o e).1
  have lim : s.heap.NoLimit := e0.mod.nolimit.keeps fun b o e => (e0.bs b o e).1
  refine codeAny_call_function hr.depth (KX _ _ lk) rfl S.co S.gen rfl (PySem.W.codeRec_of KX hcd) (hb _ _ _ _ ?_)
  refine wpAny_newFunctionEnv S.nocell (fun ⟨n, _⟩ hy => S.par n (List.of_mem_zip hy).1) (fun h₁ hns hsb => ⟨lim.fresh _ hsb, ?_⟩) S.kind
  show codeAny _ _ (.func body (envF (nfC name qual params body scope cc cda) f s.heap.objs.size)) _ _
  refine PySem.ks_codeAny_funcAt ?_
  have kp : ∀ b o, s.heap.get? b = some o → h₁.get? b = some o := fun b o e => hsb.extBut b o (Nat.ne_of_lt (Heap.lt_size e)) (Heap.get?_push_of_some _ e)
  have I : Inv (ncx (L2.CX P w) P w K mg base N (nfC name qual params body scope cc cda) f A outer s H E) [] (startF N vs [some (.ref Dd)]) H { s with heap := h₁, toks := s.toks + (ps.zip us).length } := inv_startN S hr.hd e0 hl r (cells_cls e0 lc) hns kp
  have run := body_runA (X := ncx (L2.CX P w) P w K mg base N (nfC name qual params body scope cc cda) f A outer s H E) (ws := [some (.ref Dd)]) hN hio (hbody A outer s H E (hr.deeper _)) hsp
  refine PySem.wpAt_mono (run [] _ I) (fun fl s' hs => ?_) fun e s' hs => hs
  have fin : ∀ {σ' : L2.St} {H' : Hp} {v : V} {u : Value}, Inv (ncx (L2.CX P w) P w K mg base N (nfC name qual params body scope cc cda) f A outer s H E) [] σ' H' s' → RelV v u → Q v H' → CE outer P w H s Q u s' :=
    fun {σ' H' v u} J rv q => ⟨v, H', J.os, J.bare, J.base, J.hok, rv, q⟩
  cases fl with
  | ret u =>
    obtain ⟨v, σ', H', J, rv, q⟩ := hs
    exact fin J rv q
  | next =>
    obtain ⟨σ', H', J, q⟩ := hs
    exact fin (v := V.non) (u := Value.none) J rfl q
  | brk =>
    obtain ⟨_, _, _, q⟩ := hs
    exact False.elim q
  | cont =>
    obtain ⟨_, _, _, q⟩ := hs
    exact False.elim q
theorem takes_ncx {F : NF} {A : Around} {outer : List PySem.Env} {s : Shared} {H : Hp} {E : XK} : Takes (ncx (L2.CX P w) P w K mg base N F f A outer s H E) (WXE E) := takes_of rfl rfl rfl rfl
theorem owns_ncx {CX : CXT} {F : NF} {A : Around} {outer : List PySem.Env} {s : Shared} {H : Hp} {E : XK} :
    PassesOwn (model P w) (ncx CX P w K mg base N F f A outer s H E).A (ncx CX P w K mg base N F f A outer s H E).env (ncx CX P w K mg base N F f A outer s H E).xe := passes_of rfl
end
end Rz
namespace Rz
open PySem PySem.Spec PyProof.Rows L2 NdefX ClX
structure SupAt (X : Cx) (Dd : Addr) (ar : Str) : Prop where
  ks : X.env.kindOf "super" = some .globalImplicit
  kc : X.env.kindOf "__class__" = some .free
  ex : ∃ (f cda cc : Addr) (fd : FuncData) (a0 : Arg) (oc ccl cl : Value) (od cdd cld : Option Addr) (osl ccs csl : Array (Option Value)) (vs : Array Value) (file : Str) (tf : Tok) (cdD : ClassData),
    X.env.func = some f ∧ X.env.code = .ref cda ∧ X.env.cells.lookup ("__class__" : Str) = some cc ∧ X.K.lookup f = some ⟨oc, od, .func fd, osl⟩ ∧ (fd.params.posonlyargs ++ fd.params.args).head? = some a0 ∧ a0.arg = ar ∧
      X.K.lookup cda = some ⟨ccl, cdd, .fields vs, ccs⟩ ∧ vs[2]? = some (.str file tf) ∧ ((X.prog.main.file : Str) == file) = true ∧ X.K.lookup cc = some ⟨cl, cld, .cell (some (.ref Dd)), csl⟩ ∧ PySem.W.clsIn X.K Dd = some cdD
  sup : X.mg "super" = none
  top : (X.prog.main.scope.names.lookup ("super" : Str)).isSome = false
  opq : PySem.W.nsIn X.K cStatics "thirdparty.any" = some none
section
variable {X : Cx} {pins : List (Addr × Obj)} {σ : L2.St} {H : Hp} {s : Shared}
theorem ld_name {i : Nat} {x : Str} {v : V} {E : Value → Shared → Prop} {Q : Value → Shared → Prop} (I : Inv X pins σ H s) (hN : X.N[i]? = some x) (hv : Vis X.env.scope x) (hσ : σ[i]? = some (some v)) (hcd : (x == ("__classdict__" : Str)) = false) (h : ∀ u, RelV v u → Q u s) :
    wpAny (model X.prog X.w) X.A (loadName X.env x) Q E s := by
  obtain ⟨m, hn, hl⟩ := I.loc
  obtain ⟨u, r, l⟩ := hl i x v hN hσ hv
  rcases l with ⟨hk, hm⟩ | ⟨hk, c, hc, hcell⟩
  · exact wpAny_loadName_local I.ok.kind hk hn hm (h u r)
  · rcases hk with hk | hk
    · exact wpAny_loadName_cell I.ok.kind hk hc hcell (h u r)
    · exact wpAny_loadName_free I.ok.kind hk hc hcell (h u r) hcd
theorem super_obj {b0 : List Stmt} {p0 p1 : Pos} {attr ar : Str} {whole : Sem Value} {Dd x C dx : Addr} {fs : List (Str × V)} {Q : Value → Shared → Prop} (U : SupAt X Dd ar) (I : Inv X pins σ H s) (hat : (attr == ("__class__" : Str)) = false)
    (hN : X.N[0]? = some ar) (hv : Vis X.env.scope ar) (har : (ar == ("__classdict__" : Str)) = false) (hσ : σ[0]? = some (some (.ref x))) (hx : H x = some (.ins C dx fs)) (hsub : PySem.W.mroIn X.K C (.ref Dd) = some true)
    (h : ∀ so s', Inv X ((so, PySem.W.ks_superObj Dd x C) :: pins) σ H s' → Q (.ref so) s') :
    PySem.wpAt (model X.prog X.w) X.A (.func b0 X.env) (attributeBase (.Call (.Name "super" p0) [] [] p1) attr X.env whole) Q X.xe s := by
  obtain ⟨f, cda, cc, fd, a0, oc, ccl, cl, od, cdd, cld, osl, ccs, csl, vs, file, tf, cdD, h1, h2, h3, h4, h5, rfl, h7, h8, h9, h10, h11⟩ := U.ex
  have KI := I.kIn
  obtain ⟨oD, hD1, hD2⟩ : ∃ oD, s.heap.get? Dd = some oD ∧ oD.data = .cls cdD := by
    unfold PySem.W.clsIn at h11
    split at h11
    · rename_i c d cd' sl ho
      cases h11
      exact ⟨_, KI _ _ ho, rfl⟩
    · cases h11
  obtain ⟨mA, O, _⟩ := ins_get I.hok hx
  obtain ⟨odx, J, _⟩ := O.look
  obtain ⟨hh, g, d, t, os⟩ := s
  refine PySem.ks_wpAt_super_base U.ks U.kc hat h1 (KI _ _ h4) rfl h5 h2 (KI _ _ h7) rfl h8 h9 U.top ?_
  refine PySem.W.ks_loadName_global I.ok.kind U.ks ?_
  obtain ⟨mb, hb1, hb2⟩ := I.mod.blt
  refine Calls.loadGlobal_builtin (by rw [I.ok.glob]; exact I.mod.glob.keeps I.bk) U.sup (by rw [I.ok.blt]; exact hb1.keeps I.bk) ((hb2 _ (by decide +kernel)).trans (by kernel_rfl)) ⟨rfl, ?_⟩
  refine wpAny_loadName_free I.ok.kind U.kc h3 ⟨_, KI _ _ h10, rfl⟩ ?_
  refine ld_name I hN hv hσ har fun u ru => ?_
  obtain rfl : u = Value.ref x := ru
  refine PySem.ks_wpAny_isType_cls hD1 hD2 ⟨rfl, ?_⟩
  refine PySem.ks_wpAny_call_super hD1 hD2 J.at_ J.cls (fun c e => ?_) (PySem.W.looks_mroIn KI hsub) (fun h' e k => ?_)
  · have := J.no
    unfold PySem.W.notCls at this
    rw [e] at this
    exact Bool.noConfusion this
  · exact h _ _ (pin_new I k (Nat.le_refl _) e (fun v z => nomatch z))
theorem super_meth {name : Str} {pl : Sem Bool} {so Dd x C f2 dx : Addr} {ar : Str} {fs : List (Str × V)} {Q : Value × List Value → Shared → Prop} {E : Value → Shared → Prop} (U : SupAt X Dd ar) (I : Inv X ((so, PySem.W.ks_superObj Dd x C) :: pins) σ H s) (hx : H x = some (.ins C dx fs))
    (hm : PySem.W.ks_superIn X.K C Dd name = some (some (.ref f2))) (ht : PySem.W.typeIn X.K (.ref f2) = some (.type "function")) (hn : (name == ("__class__" : Str)) = false)
    (h : ∀ q s', X.base.get? q = none → Inv X ((q, PySem.W.methodObj (.ref f2) (.ref x)) :: (so, PySem.W.ks_superObj Dd x C) :: pins) σ H s' → Q (.ref q, []) s') : wpAny (model X.prog X.w) X.A (getMethod (.ref so) name pl) Q E s := by
  have KI := I.kIn
  obtain ⟨mA, O, _⟩ := ins_get I.hok hx
  obtain ⟨odx, J, _⟩ := O.look
  cases hc : PySem.W.clsIn X.K C with
  | none => unfold PySem.W.ks_superIn at hm; rw [hc] at hm; cases hm
  | some cd =>
    have hm' := hm
    unfold PySem.W.ks_superIn at hm'
    rw [hc] at hm'
    obtain ⟨of, hof, hofc⟩ : ∃ of, s.heap.get? f2 = some of ∧ of.cls = .type "function" := by
      have ht' : (X.K.lookup f2).map (·.cls) = some (.type "function") := ht
      cases z : X.K.lookup f2 with
      | none => rw [z] at ht'; cases ht'
      | some of => rw [z] at ht'; exact ⟨of, KI _ _ z, Option.some.inj ht'⟩
    have hso := pin_at I
    have hbn : X.base.get? s.heap.objs.size = none := base_none I (Nat.le_refl _)
    obtain ⟨hh, g, d, t, os⟩ := s
    refine PySem.ks_wpAny_getMethod_super hso (PySem.W.looks_opaque KI U.opq) (l₀ := cd.mro) ?_ rfl KI hm' hof hofc (PySem.W.ks_ne KI J hc) hn ?_
    · exact fun A Q E s k q => wpAny_bind ((PySem.W.looks_clsIn KI hc) A _ E s k (wpAny_pure q))
    · exact h _ _ hbn (pin_new (s := ⟨hh, g, d, t, os⟩) (o := PySem.W.methodObj (.ref f2) (.ref x)) I (fun b o e => Heap.get?_push_of_some _ e) (Nat.le_refl _) (Heap.get?_push_at rfl rfl) (fun v z => nomatch z))
theorem bound_call {pos : Pos} {e : Expr} {es : List Expr} {q g x : Addr} {Q : Value → Shared → Prop} {E : Value → Shared → Prop} (I : Inv X ((q, PySem.W.methodObj (.ref g) (.ref x)) :: pins) σ H s) (hb : X.base.get? q = none) (hf : PySem.W.fnIn X.K g = true)
    (h : wpAny (model X.prog X.w) X.A (spliced (backTo pos (starEach (e :: es) X.env))) (fun vs s₁ => PySem.W.MethP X.K q g (.ref x) s₁.heap ∧ wpAny (model X.prog X.w) X.A (call (.ref q) vs) Q E s₁) E s)
    (he : starEach (e :: es) X.env = (false, eval e X.env) :: starEach es X.env) (hpl : (backTo pos (starEach es X.env)).any (·.1) = false) :
    wpAny (model X.prog X.w) X.A (callWith pos (.ref q) [] (backTo pos (starEach (e :: es) X.env)) []) Q E s := by
  have hq := pin_at I
  have hL : q ≠ X.env.locals := (I.pin (q, PySem.W.methodObj (.ref g) (.ref x)) (List.mem_append_right _ List.mem_cons_self)).2.2.1
  exact PySem.W.callWith_M (K := X.K) (h₀ := X.base) (first := []) I.ok.mod.kin (news_at hL hb hq) List.mem_cons_self hf h he hpl
end
def selfG (st : List Sl) : Option (Nat × Ag) := match (st[0]? : Option Sl) with
  | some (.fz (.ins c fs)) => some (c, .d (.ins c fs))
  | some (.mi c _) => some (c, .io 0)
  | _ => none
def supM (cs : List Nat) (f : Nat → Env → Res) (io : List Nat) (ma : M (List Ag)) : M Sl := fun st => match selfG st with
  | some (c, g) => if cs.contains c then callM (f c) io (preA g ma) st else .bad
  | none => .bad
def SupOk (P : Program) (w : World) (K : PySem.W.Frag) (mg : Str → Option Value) (base : Heap) (G : Nat → Addr) (k : Nat) (Dd : Addr) (cs : List Nat) (m : Str) (n : Nat) (io : List Nat) (f : Nat → Env → Res) : Prop :=
  ∀ c ∈ cs, PySem.W.mroIn K (G c) (.ref Dd) = some true ∧ ∃ fa, PySem.W.ks_superIn K (G c) Dd m = some (some (.ref fa)) ∧ FnA P w K mg base G k fa n io (f c)
section
variable {G : Nat → Addr} {X : Cx} {W : WX} {b0 : List Stmt} {e : Expr} {es : List Expr} {pos apos p0 p1 : Pos} {f : Nat → Env → Res} {io : List Nat} {k j n : Nat} {cs : List Nat} {m ar : Str} {ma : M (List Ag)} {Dd : Addr}
theorem self_at {w : Wd} {st : Env} {σ : L2.St} {c : Nat} {g : Ag} (r : Rel X.K G w st σ) (h : selfG st = some (c, g)) : ∃ a dx fs, σ[0]? = some (some (.ref a)) ∧ w.H a = some (.ins (G c) dx fs) ∧ AgR X.K G σ w (.ref a) g ∧ (g = .io 0 ∨ ∃ fs, g = .d (.ins c fs)) := by
  unfold selfG at h
  split at h
  · rename_i c' fs' e
    cases h
    obtain ⟨y, hy, v, rfl, q⟩ := r.at_ 0 _ e
    have q' := q
    cases q with
    | @ins a dx _ fsV _ hF rF => exact ⟨a, dx, fsV, hy, r.ok.sub _ _ hF, q', .inr ⟨_, rfl⟩⟩
  · rename_i c' fs' e
    cases h
    obtain ⟨y, hy, a, dx, vs, rfl, k, hh, rr⟩ := r.at_ 0 _ e
    exact ⟨a, dx, vs, hy, hh, hy, .inl rfl⟩
  · cases h
theorem snd_super {pl : Sem Bool} (tk : Takes X W) (U : SupAt X Dd ar) (F : SupOk X.prog X.w X.K X.mg X.base G j Dd cs m n io f) (hr : Room k X.A) (hj : j ≤ k) (hN : X.N[0]? = some ar) (hv : Vis X.env.scope ar) (har : (ar == ("__classdict__" : Str)) = false)
    (hl : SndA G X W (e :: es) ma) (hn : (e :: es).length + 1 = n) (ha : PA X (e :: es) (RunL X (e :: es))) (hm : (m == ("__class__" : Str)) = false := by decide)
    (hst : starEach (e :: es) X.env = (false, eval e X.env) :: starEach es X.env := by rfl) (hpl : (backTo pos (starEach es X.env)).any (·.1) = false := by rfl)
    (ht : eval (.Call (.Attribute (.Call (.Name "super" p0) [] [] p1) m apos) (e :: es) [] pos) X.env = (do
      let ov ← attributeBase (.Call (.Name "super" p0) [] [] p1) m X.env (eval (.Call (.Name "super" p0) [] [] p1) X.env)
      standAt apos.atName
      let (f, first) ← holding [ov] (getMethod ov m pl)
      callWith pos f first (backTo pos (starEach (e :: es) X.env)) []) := by rfl) :
    SndVA G X W b0 (.Call (.Attribute (.Call (.Name "super" p0) [] [] p1) m apos) (e :: es) [] pos) (supM cs f io ma) := by
  intro w st σ Q r p pins s I
  unfold supM at p
  cases hs : selfG st with
  | none => rw [hs] at p; exact p.elim
  | some cg =>
    obtain ⟨c, g⟩ := cg
    rw [hs] at p
    have p : Post X.K G (RV X.K G) w σ W (if cs.contains c then callM (f c) io (preA g ma) st else .bad) Q := p
    by_cases hc : cs.contains c = true
    · rw [if_pos hc] at p
      obtain ⟨a, dx, fs, hσ, hx, hag, hg⟩ := self_at r hs
      obtain ⟨hmro, fa, hsup, FA⟩ := F c (by simpa using hc)
      obtain ⟨fd, ps, hfn, hisf, hkp, _⟩ := FA.ex
      refine PySem.ks_wpAt_MethodCall (pl := pl) (super_obj U I hm hN hv har hσ hx hmro fun so s1 I1 => ?_) ht
      refine super_meth U I1 hx hsup (beq_iff_eq.mp hisf) hm fun q s2 hb I2 => ?_
      have hA : RunL X (e :: es) σ w.H fun us H => spM X.K G n io (f c) (.ref a :: us) H Q (WE W σ) := by
        refine RunL.len ?_
        refine hl w st σ _ r ?_
        rw [callM_pre] at p
        cases e1 : ma st with
        | bad => rw [e1] at p; exact p
        | exc y st2 => rw [e1] at p; exact p
        | ok as st2 =>
          rw [e1] at p
          intro us w2 r2 s2 q2 hlen
          have p : Post X.K G (RV X.K G) w σ W (if agsOk st2 (g :: as) io = true then (match f c ((g :: as).map (slOf st2)) with
            | .ret v o => if o.length = io.length then Out.ok v (backs st2 (g :: as) io o) else .bad
            | .exc x o => if o.length = io.length then .exc x (backs st2 (g :: as) io o) else .bad
            | .bad => .bad) else .bad) Q := p
          by_cases hk : agsOk st2 (g :: as) io = true
          · rw [if_pos hk] at p
            exact sp_of (w0 := w) (vs := .ref a :: us) (as := g :: as) r2 (.cons (AgR.mono s2.f hag) q2) hk n (by rw [List.length_cons, hlen]; exact hn) (Post.shift r2.ok s2 older_V p)
          · rw [if_neg hk] at p; exact p.elim
      have z : wpAny (model X.prog X.w) X.A (callWith pos (.ref q) [] (backTo pos (starEach (e :: es) X.env)) []) (EP X ((q, PySem.W.methodObj (.ref fa) (.ref a)) :: (so, PySem.W.ks_superObj Dd a (G c)) :: pins) σ Q) X.xe s2 := by
        refine bound_call I2 hb hfn (thn (ha.run pos _ s2 σ w.H _ I2 hA) fun us s3 ⟨vs, H2, I3, rv, q2⟩ => ⟨⟨pin_at I3, I3.kIn⟩, ?_⟩) hst hpl
        exact wpAny_call (PySem.W.method_call (pin_at I3) (run_fnA (us := .ref a :: us) (vs := .ref a :: vs) FA hr hj (passAt tk σ) I3 (.cons rfl rv) q2))
      exact thn z fun _ _ y => unpinE (unpinE y)
    · rw [if_neg hc] at p; exact p.elim
end
end Rz
namespace Rz
open PySem PySem.Spec PyProof.Rows L2
def tyN : D → String
  | .non => "NoneType"
  | .bl _ => "bool"
  | .int _ => "int"
  | .str _ => "str"
  | .tup _ => "tuple"
  | .lst _ => "list"
  | .scr _ => "list"
  | .dct _ => "dict"
  | .ins _ _ => "object"
def isT (t T : String) : Bool := t == T || (t == "bool" && T == "int")
structure InsTy (K : PySem.W.Frag) (C : Addr) : Prop where
  cl : Cls K C
  ha : PySem.W.findIn K (.ref C) "__class__" = some (some (.builtin "object.__class__"))
  hn : PySem.W.specialIn K (.builtin "object.__class__") "__get__" = some (some (.builtin "getset_descriptor.__get__"))
  tk : PySem.W.takesIn K (.builtin "object.__class__") = some true
  hm : PySem.W.mroIn K C (.type "object") = some true
def tyVal (G : Nat → Addr) : D → Value
  | .ins c _ => .ref (G c)
  | d => .type (tyN d)
def IsiOk (K : PySem.W.Frag) (G : Nat → Addr) (u : Value) (g : D → Option Bool) : Prop := ∀ d b, g d = some b → (∀ c fs, d = .ins c fs → InsTy K (G c)) ∧ PySem.W.kitOne K (tyVal G d) u = some b
def dIsi (g : D → Option Bool) (d : D) : Option D := (g d).map .bl
def isB (T : String) (cs : List Nat) : D → Option Bool
  | .ins c _ => if cs.contains c then some false else none
  | d => some (isT (tyN d) T)
def isC (sub cs : List Nat) : D → Option Bool
  | .ins c _ => if sub.contains c then some true else if cs.contains c then some false else none
  | d => some false
theorem tyN_mem {d : D} (h : ∀ c fs, d ≠ .ins c fs) : tyN d ∈ tyNames := by
  cases d <;> first | exact absurd rfl (h _ _) | (simp [tyN, tyNames])
section
variable {K : PySem.W.Frag} {G : Nat → Addr}
theorem isiB_ok {T : String} {cs : List Nat} (hT : tyNames.all (fun t => decide (kitB t T = some (isT t T))) = true) (hc : ∀ c ∈ cs, InsTy K (G c) ∧ PySem.W.kitOne K (.ref (G c)) (.type T) = some false) : IsiOk K G (.type T) (isB T cs) := by
  intro d b h
  cases d with
  | ins c fs =>
    have h : (if cs.contains c then some false else none) = some b := h
    split at h
    · rename_i q
      cases h
      obtain ⟨h1, h2⟩ := hc c (by simpa using q)
      exact ⟨fun c' fs' e => by cases e; exact h1, h2⟩
    · cases h
  | _ =>
    cases h
    refine ⟨fun c' fs' e => (by cases e), ?_⟩
    exact kit_ty (of_decide_eq_true (List.all_eq_true.mp hT _ (tyN_mem (fun c fs e => (by cases e)))))
theorem isiC_ok {r : Addr} {sub cs : List Nat} (hT : ∀ t ∈ tyNames, PySem.W.kitOne K (.type t) (.ref r) = some false) (hs : ∀ c ∈ sub, InsTy K (G c) ∧ PySem.W.kitOne K (.ref (G c)) (.ref r) = some true) (hc : ∀ c ∈ cs, InsTy K (G c) ∧ PySem.W.kitOne K (.ref (G c)) (.ref r) = some false) :
    IsiOk K G (.ref r) (isC sub cs) := by
  intro d b h
  cases d with
  | ins c fs =>
    have h : (if sub.contains c then some true else if cs.contains c then some false else none) = some b := h
    split at h
    · rename_i q
      cases h
      obtain ⟨h1, h2⟩ := hs c (by simpa using q)
      exact ⟨fun c' fs' e => by cases e; exact h1, h2⟩
    · split at h
      · rename_i q
        cases h
        obtain ⟨h1, h2⟩ := hc c (by simpa using q)
        exact ⟨fun c' fs' e => by cases e; exact h1, h2⟩
      · cases h
  | _ =>
    cases h
    exact ⟨fun c' fs' e => (by cases e), hT _ (tyN_mem (fun c fs e => (by cases e)))⟩
theorem sqT_ty {H : Hp} {a : Addr} {vs : List V} (h : SqT K H a vs) : TyX K H (.ref a) (.type "tuple") := by
  rcases h with (h | ⟨o, h⟩) | ⟨o, _, _, h, hc, _⟩
  · exact .base (.tup h)
  · exact .fTuple h
  · exact .kTuple h hc
theorem sqL_ty {H : Hp} {a : Addr} {vs : List V} (h : SqL K H a vs) : TyX K H (.ref a) (.type "list") := by
  rcases h with (h | ⟨o, h⟩) | ⟨o, _, _, h, hc, _⟩
  · exact .base (.lst h)
  · exact .base (.frz h)
  · exact .kList h hc
theorem rep_ty {w : Wd} {H : Hp} (hH : Same w.F H) {v : V} {d : D} (r : Rep K G w.F v d) (hi : ∀ c fs, d = .ins c fs → InsTy K (G c)) : TyX K H v (tyVal G d) := by
  cases r with
  | non => exact .base .non
  | bl b => exact .base (.bl b)
  | int i => exact .base (.int i)
  | str s => exact .base (.str _)
  | tup q r => exact sqT_ty (SqT.same hH q)
  | lst q r => exact .base (.lst (hH _ _ q))
  | dct q r => exact .fDict (hH _ _ q)
  | ins q r => obtain ⟨c1, c2, c3, c4, c5⟩ := hi _ _ rfl; exact .base (.ins (hH _ _ q) c1 c2 c3 c4 c5)
  | scr q => exact sqL_ty (SqL.same hH q)
theorem repB_ty {w : Wd} (ok : w.Ok) {v : V} {d : D} (r : RepB K G w v d) (hi : ∀ c fs, d = .ins c fs → InsTy K (G c)) : TyX K w.H v (tyVal G d) := by
  cases r with
  | fz r => exact rep_ty ok.sub r hi
  | ml h r => exact .base (.lst h)
  | md h r => exact .base (.dK h)
  | mi h r => obtain ⟨c1, c2, c3, c4, c5⟩ := hi _ _ rfl; exact .base (.ins h c1 c2 c3 c4 c5)
end
section
variable {G : Nat → Addr} {X : Cx} {W : WX} {e c : Expr} {p pos : Pos} {g : D → Option Bool} {u : Value} {v : V} {ml : M (List D)}
theorem snd_isi (hI : IsiOk X.K G u g) (hv : ClsV v u) (hc : PE X c (tC v)) (hm : X.mg "isinstance" = none) (hl : SndL G X W [e] ml) (ha : PA X [e, c] (RunL X [e, c])) (hg : Gl X "isinstance" := by rfl)
    (he : starEach [e, c] X.env = (false, eval e X.env) :: starEach [c] X.env := by rfl) (hpl : (backTo pos (starEach [c] X.env)).any (·.1) = false := by rfl) :
    SndD G X W (.Call (.Name "isinstance" p) [e, c] [] pos) (op1M (dIsi g) ml) := by
  intro w st σ Q r pq
  refine RunE.of (pe_callB call_isi hg hm (by rfl) ha (by decide) (by decide) he hpl) ?_
  show RunE X e σ w.H fun x H1 => RunE X c σ H1 fun y H2 => rIsi X.K [x, y] H2 Q
  have h := Snd.bind (run1 := RunL X [e]) (Q1 := fun vs H => match vs with | [x] => rIsi X.K [x, v] H Q | _ => False) hl older_D r pq fun ds us w1 st1 r1 s1 q1 p1 => ?_
  · have h : RunE X e σ w.H fun x H1 => rIsi X.K [x, v] H1 Q := h
    exact RunE.mk fun pins s I => thn (h pins s I) fun u s1 ⟨x, H1, I1, rx, q⟩ => ⟨x, H1, I1, rx, RunE.of hc q⟩
  · cases q1 with
    | nil => exact p1.elim
    | @cons x xs d ds b1 q1 =>
      cases q1 with
      | nil =>
        have p2 : Post X.K G (RD X.K G) w1 σ W ((liftM (dIsi g d) : M D) st1) Q := p1
        cases eg : g d with
        | none => unfold dIsi at p2; rw [eg] at p2; exact p2.elim
        | some b =>
          unfold dIsi at p2
          rw [eg] at p2
          obtain ⟨h1, h2⟩ := hI d b eg
          exact ⟨x, v, tyVal G d, u, b, rfl, hv, repB_ty r1.ok b1 h1, h2, p2 (.bl b) w1 r1 (Step.refl _) (.bl b)⟩
      | cons _ _ => exact p1.elim
end
end Rz
namespace Rz
open PySem PySem.Spec PyProof.Rows L2
def putFD (f : Str) (v : D) : List (Str × D) → List (Str × D)
  | [] => [(f, v)]
  | (g, x) :: r => if g = f then (g, v) :: r else (g, x) :: putFD f v r
theorem RepF.put {K : PySem.W.Frag} {G : Nat → Addr} {F : Hp} {f : Str} {v : V} {d : D} (q : Rep K G F v d) : ∀ {vs : List (Str × V)} {fs : List (Str × D)}, RepF K G F vs fs → RepF K G F (putF f v vs) (putFD f d fs)
  | _, _, .nil => .cons q .nil
  | _, _, .cons (k := k) r t => by
    unfold putF putFD
    by_cases h : k = f
    · rw [if_pos h, if_pos h]; exact .cons q t
    · rw [if_neg h, if_neg h]; exact .cons r (RepF.put q t)
section
variable {G : Nat → Addr} {X : Cx} {W : WX} {pr : List Nat} {e : Expr} {pos pos' np : Pos} {cs : List Nat} {f x : Str} {i : Nat} {w : Wd} {st : Env} {σ : L2.St}
theorem Rel.putI {K : PySem.W.Frag} (r : Rel K G w st σ) {a dx : Addr} {c : Nat} {vs' : List (Str × V)} {fs' : List (Str × D)} (hσ : σ[i]? = some (some (.ref a))) (hk : w.k a = .own i) (q : RepF K G w.F vs' fs') :
    Rel K G (w.put a (.ins (G c) dx vs')) (st.set i (.mi c fs')) σ := by
  have nf : w.k a ≠ .frz := by rw [hk]; intro z; cases z
  refine ⟨Wd.put_ok r.ok nf, by rw [List.length_set]; exact r.len, fun j s h => ?_, r.tk⟩
  rcases set_at h with ⟨rfl, rfl⟩ | ⟨n, h⟩
  · exact ⟨_, hσ, a, dx, vs', rfl, hk, upd_same, q⟩
  · obtain ⟨y, hy, q'⟩ := r.at_ j s h
    exact ⟨y, hy, q'.put hk n⟩
def fldSet (cs : List Nat) (i : Nat) (f : Str) (m : M D) : M Fl := bindM m fun d => fun st => match (st[i]? : Option Sl) with
  | some (.mi c fs) => if cs.contains c && decide (fs.length < 1000) then .ok .nx (st.set i (.mi c (putFD f d fs))) else .bad
  | _ => .bad
theorem sc_fld {m : M D} (hF : FldOk X.K G cs f) (h : SndD G X W e m) (hN : X.N[i]? = some x := by rfl) (hv : Vis X.env.scope x := by first | exact Or.inl rfl | exact Or.inr (Or.inl rfl) | exact Or.inr (Or.inr rfl))
    (hd : (x == ("__debug__" : Str)) = false := by decide) (hcd : (x == ("__classdict__" : Str)) = false := by decide) (hs : swapsWith e (some (.Attribute (.Name x np) f pos')) pos.line X.env = pure false := by rfl) :
    SndC G X W pr (.Assign [.Attribute (.Name x np) f pos'] e pos) (fldSet cs i f m) := by
  intro w0 w st σ D ok0 r s own p
  refine RunS.of (ps_fld (pe_var hN hv hd hcd) pe_run hs) ?_
  refine Snd.stmt (run1 := RunE X e) h r s p fun d u w1 st1 r1 s1 _ q1 p1 => ?_
  have p1 : PostS X.K G w0 w1.F pr σ W (match (st1[i]? : Option Sl) with
    | some (.mi c fs) => if cs.contains c && decide (fs.length < 1000) then Out.ok Fl.nx (st1.set i (.mi c (putFD f d fs))) else .bad
    | _ => .bad) D := p1
  cases e1 : (st1[i]? : Option Sl) with
  | none => rw [e1] at p1; exact p1.elim
  | some s2 =>
    rw [e1] at p1
    cases s2 with
    | mi c fs =>
      obtain ⟨y, hy, a, dx, vs, rfl, k, hh, rr⟩ := r1.at_ i _ e1
      have p1 : PostS X.K G w0 w1.F pr σ W (if cs.contains c && decide (fs.length < 1000) then Out.ok Fl.nx (st1.set i (.mi c (putFD f d fs))) else .bad) D := p1
      cases hc : (cs.contains c && decide (fs.length < 1000)) with
      | false => rw [hc] at p1; exact p1.elim
      | true =>
        rw [hc] at p1
        obtain ⟨h1, h2⟩ := Bool.and_eq_true_iff.mp hc
        obtain ⟨hcls, hna⟩ := hF c (by simpa using h1)
        refine ⟨.ref a, hy, a, G c, dx, vs, rfl, hh, hcls, hna, by rw [rr.length]; exact of_decide_eq_true h2, ?_⟩
        exact p1 (w1.put a _) σ (r1.putI hy k (rr.put q1)) (s1.trans r1.ok (Wd.put_ok r1.ok (by rw [k]; intro z; cases z)) (Wd.put_step r1.ok k)) (Same.refl _) (Kept.refl _ _)
    | _ => exact p1.elim
end
end Rz
namespace Rz
open PySem PySem.Spec PyProof.Rows L2
section
variable {prog : Program} {w : World} {K : Type} [DecidableEq K] {knd : KeyKind prog w K} {A : Around} {E : Value → Shared → Prop} {s : Shared}
theorem wp_dictPut {d : Addr} {kvs : List (K × Value)} {k : K} {key v : Value} {Q : Unit → Shared → Prop} (hkey : knd.is k key = true) (hm : s.heap.DictOf knd d kvs) (hnot : k ∉ kvs.map (·.1))
    (hQ : ∀ h', h'.DictOf knd d (kvs ++ [(k, v)]) → Heap.SameBut d s.heap h' → Q () { s with heap := h' })
    (hsz : kvs.length ≤ sizeLine) : wpAny (model prog w) A (dictPut d (knd.hash k) key v) Q E s := by
  obtain ⟨o, es, ep, ho, hc, hd, hk, hp, hn⟩ := hm
  have hes : es.size ≤ sizeLine := by have e1 := hp.length; have e2 : es.toList.length = es.size := by simp
                                      omega
  unfold dictPut
  refine wpAny_bind (wpAny_dictFind_of hkey ho hd hk ?_)
  have hidx : (es.findIdx? fun e => knd.is k e.key) = kvs.findIdx? fun kv => decide (kv.1 = k) := by
    rw [← hp.findIdx k]; obtain ⟨l⟩ := es; simp
  cases hi : es.findIdx? fun e => knd.is k e.key with
  | some i =>
    have := any_of_findIdx_some (hidx ▸ hi)
    rw [List.any_eq_true] at this
    obtain ⟨kv, hkv, he⟩ := this
    exact absurd (List.mem_map.mpr ⟨kv, hkv, of_decide_eq_true he⟩) hnot
  | none =>
    refine wpAny_updateDictKeys (hz := hes) ho hd (hQ _ ⟨_, _, ep + 1, Heap.get?_update_self _ ho (Obj.isFreed_of_dict (Obj.data_mapDictKeys hd _)),
      hc.mapDictKeys _, Obj.data_mapDictKeys hd _, hk.push hkey _, ?_, ?_⟩ (Heap.SameBut.update ..))
    · have := hp.append hkey (knd.hash k) v
      obtain ⟨l⟩ := es
      simpa using this
    · rw [List.map_append, List.nodup_append]
      refine ⟨hn, by simp, ?_⟩
      intro a ha b hb
      simp only [List.map_cons, List.map_nil, List.mem_singleton] at hb
      subst hb
      exact fun e => hnot (e ▸ ha)
theorem wp_find_none {d : Addr} {kvs : List (K × Value)} {k : K} {key : Value} {Q : Option Nat → Shared → Prop} (hkey : knd.is k key = true) (hm : s.heap.DictOf knd d kvs) (hnot : k ∉ kvs.map (·.1)) (h : Q none s) :
    wpAny (model prog w) A (dictFind d key (knd.hash k)) Q E s := by
  obtain ⟨o, es, ep, ho, hc, hd, hk, hp, hn⟩ := hm
  refine wpAny_dictFind_of hkey ho hd hk ?_
  have hidx : (es.findIdx? fun e => knd.is k e.key) = kvs.findIdx? fun kv => decide (kv.1 = k) := by
    rw [← hp.findIdx k]; obtain ⟨l⟩ := es; simp
  cases hi : es.findIdx? fun e => knd.is k e.key with
  | some i =>
    have := any_of_findIdx_some (hidx ▸ hi)
    rw [List.any_eq_true] at this
    obtain ⟨kv, hkv, he⟩ := this
    exact absurd (List.mem_map.mpr ⟨kv, hkv, of_decide_eq_true he⟩) hnot
  | none => exact h
theorem wp_mergeMap0 {d o : Addr} {more : List (K × Value)} {Q : Unit → Shared → Prop} (hdo : d ≠ o) (hoS : (o == sysModules) = false)
    (hd : s.heap.DictOf knd d []) (ho : s.heap.DictOf knd o more) (hsz : more.length ≤ sizeLine)
    (hQ : ∀ h', h'.DictOf knd d more → Heap.SameBut d s.heap h' → Q () { s with heap := h' }) :
    wpAny (model prog w) A (mergeMapping d (.ref o) true) Q E s := by
  obtain ⟨od, esd, epd, hod, hcd, hdd, hkd, hpd, hnd⟩ := id hd
  obtain ⟨oo, eso, epo, hoo, hco, hdo', hko, hpo, hno⟩ := id ho
  have hlen : more.length = eso.size := by rw [← hpo.length]; simp
  unfold mergeMapping
  refine wpAny_bind (wpAny_isInstance ho.typeIs isSubtype_dict_dict ?_)
  rw [if_pos rfl]
  refine wpAny_bind (wpAny_specialOf ho.typeIs F.slot_dict_iter.lookup ?_)
  refine wpAny_bind (wpAny_pure ?_)
  rw [beq_self_eq_true]
  dsimp only
  rw [if_neg (by rw [hoS]; exact Bool.false_ne_true)]
  refine wpAny_bind (wpAny_dictEntries hod hdd ?_)
  have hemp : esd.isEmpty = true := by
    have := hpd.length
    have : esd.size = 0 := by simpa using this
    rw [Array.eq_empty_of_size_eq_zero this]; rfl
  rw [if_pos hemp]
  refine wpAny_bind (wpAny_dictEntries hoo hdo' ?_)
  have hl0 : ∀ {g : DictEntry → PUnit → Sem (ForInStep PUnit)}, (∀ e ∈ eso.toList, g e PUnit.unit = pure (ForInStep.yield PUnit.unit)) → (forIn eso PUnit.unit g : Sem PUnit) = pure PUnit.unit := by
    intro g hg
    rw [← Array.forIn_toList]
    exact forIn_yield_id _ fun e he c => hg e he
  rw [hl0 (fun e he => by
    obtain ⟨k, hkey, _⟩ := hko e (Array.mem_toList_iff.mp he)
    have hb := knd.byValue k _ hkey
    cases hkk : e.key with
    | ref a => rw [hkk] at hb; exact absurd hb (by simp [carriedByValue])
    | _ => rfl)]
  refine wpAny_bind (wpAny_pure ?_)
  refine wpAny_bind (wpAny_dictEntries hoo hdo' ?_)
  refine wpAny_bind (wpAny_dictEpoch hoo hdo' ?_)
  refine wpAny_bind ?_
  rw [List.range_eq_range']
  refine wpAny_forIn_list _
    (fun rest _ s' => ∃ h' i, s' = { s with heap := h' } ∧ rest = List.range' i (eso.size - i) ∧ i ≤ eso.size ∧ h'.DictOf knd d (more.take i) ∧ h'.get? o = some oo ∧ Heap.SameBut d s.heap h')
    _ ?_ ?_ _ _ ⟨s.heap, 0, rfl, by simp, Nat.zero_le _, by simpa using hd, hoo, Heap.SameBut.refl _ _⟩
  · rintro x rest b s' ⟨h', i, rfl, hr, hi, hd', hoo', hs'⟩
    have hlt : i < eso.size := by
      rcases Nat.lt_or_ge i eso.size with h | h
      · exact h
      · rw [Nat.sub_eq_zero_of_le h] at hr; simp at hr
    obtain ⟨rfl, hrest⟩ : x = i ∧ rest = List.range' (i + 1) (eso.size - (i + 1)) := by
      have e : eso.size - i = (eso.size - (i + 1)) + 1 := by omega
      rw [e, List.range'_succ] at hr
      injection hr with h1 h2
      exact ⟨h1, h2⟩
    refine wpAny_bind (wpAny_dictEntries hoo' hdo' ?_)
    rw [Array.getElem?_eq_getElem hlt]
    obtain ⟨kv, hkv⟩ : ∃ kv, more[x]? = some kv := ⟨more[x]'(by rw [hlen]; exact hlt), List.getElem?_eq_getElem _⟩
    obtain ⟨k, v⟩ := kv
    obtain ⟨hkey, hval⟩ := hpo.get? (e := eso[x]) (by simp [hlt]) hkv
    obtain ⟨k', hkey', hhash⟩ := hko eso[x] (Array.getElem_mem hlt)
    obtain rfl : k' = k := knd.inj _ _ _ hkey' hkey
    have e1 : more.take (x + 1) = more.take x ++ [(k', v)] := by rw [List.take_add_one, hkv]; rfl
    have hnot : k' ∉ (more.take x).map (·.1) := by
      have e2 : ((more.take (x + 1)).map (·.1)).Nodup := hno.sublist (List.Sublist.map _ (List.take_sublist _ _))
      rw [e1, List.map_append, List.nodup_append] at e2
      exact fun hm => e2.2.2 _ hm k' (by simp) rfl
    have hz : (more.take x).length ≤ sizeLine := by rw [List.length_take]; omega
    dsimp only
    refine wpAny_bind (wpAny_holding ?_)
    rw [if_pos rfl, hhash, hval]
    refine wpAny_bind (wp_find_none hkey hd' hnot ?_)
    rw [if_neg (by simp)]
    refine wp_dictPut hkey hd' hnot (fun h'' hd'' hs'' => ?_) hz
    have hoo'' : h''.get? o = some oo := (hs''.2 o (Ne.symm hdo)).trans hoo'
    refine wpAny_bind (wpAny_dictEpoch hoo'' hdo' ?_)
    rw [if_neg (by simp)]
    exact wpAny_pure ⟨h'', x + 1, rfl, hrest, hlt, by rw [e1]; exact hd'', hoo'', hs'.trans hs''⟩
  · rintro b s' ⟨h', i, rfl, hr, hi, hd', hoo', hs'⟩
    have hin : i = eso.size := by
      rcases Nat.lt_or_ge i eso.size with h | h
      · have e : eso.size - i = (eso.size - (i + 1)) + 1 := by omega
        rw [e, List.range'_succ] at hr; exact nomatch hr
      · exact Nat.le_antisymm hi h
    refine wpAny_pure (hQ h' ?_ hs')
    rw [hin, ← hlen, List.take_length] at hd'; exact hd'
end
end Rz
namespace Rz
open PySem PySem.Spec PyProof.Rows L2
section
variable {M : Model} {A : Around} {E : Value → Shared → Prop} {s : Shared}
theorem wp_star_kw {f : Value} {x y : Sem Value} {pos : Pos} {Q : Args → Shared → Prop}
    (h : wpAny M A x (fun v s1 => wpAny M A (alloc ({ cls := .type "dict", data := .dict #[] } : Obj) : Sem Addr) (fun d s2 => wpAny M A y (fun m s3 => wpAny M A (mergeMapping d m true) (fun _ s4 =>
      PySem.W.StarOf M A E v (fun vs s5 => wpAny M A (keywordsIn f d) (fun kw s6 => Q ⟨vs, kw⟩ s6) E s5) s4) (fun _ _ => False) s3) E s2) E s1) E s) :
    wpAny M A (evalArgs f true [(true, (do let v ← x; standAt pos; pure v))] [(none, (do let v ← y; standAt pos; pure v))]) Q E s := by
  unfold evalArgs
  refine wpAny_bind (wpAny_bind (wpAny_mono h (fun v s₁ h₁ => wpAny_bind (wpAny_standAt (wpAny_pure (wpAny_bind (wpAny_pure ?_))))) fun _ _ x => x))
  refine wpAny_holding ?_
  dsimp only
  rw [if_neg (by simp)]
  unfold mergedKeywords
  refine wpAny_bind (wpAny_bind (wpAny_mono h₁ (fun d s2 h2 => ?_) fun _ _ x => x))
  refine wpAny_bind (wpAny_holding ?_)
  dsimp only
  refine wpAny_bind ?_
  rw [List.forIn_cons]
  refine wpAny_bind ?_
  dsimp only
  rw [if_pos (by rfl)]
  refine wpAny_bind (wpAny_pure ?_)
  refine wpAny_bind (wpAny_bind (wpAny_mono h2 (fun m s3 h3 => wpAny_bind (wpAny_standAt (wpAny_pure ?_))) fun _ _ x => x))
  refine wpAny_bind (wpAny_onRaise (wpAny_holding (wpAny_tryCatch (wpAny_onRaise (wpAny_mono h3 (fun _ s4 h4 => ?_) fun _ _ z => z.elim)))))
  refine wpAny_pure ?_
  dsimp only
  rw [List.forIn_nil]
  refine wpAny_pure ?_
  rw [if_pos (by rfl)]
  refine wpAny_pure (wpAny_pure ?_)
  unfold PySem.W.StarOf at h4
  refine wpAny_bind (wpAny_bind (wpAny_mono h4 (fun b s5 h5 => ?_) fun _ _ x => x))
  obtain ⟨rfl, h5⟩ := h5
  rw [if_neg (by simp)]
  refine wpAny_holding (wpAny_mono h5 (fun vs s6 h6 => ?_) fun _ _ x => x)
  refine wpAny_bind (wpAny_holding (wpAny_mono h6 (fun kw s7 h7 => ?_) fun _ _ x => x))
  exact wpAny_pure h7
end
end Rz
namespace Rz
open PySem PySem.Spec PyProof.Rows L2 NdefX ClX
def kwD (ks : List Str) (zs : List V) : List (Key × V) := (ks.map Sum.inr).zip zs
section
variable {prog : Program} {w : World} {A : Around} {E : Value → Shared → Prop} {s : Shared}
theorem kw_loop {β : Type} {body : DictEntry → List (Str × Value) → Sem (ForInStep (List (Str × Value)))} (hb : ∀ (e : DictEntry) x t acc, e.key = .str x t → body e acc = pure (ForInStep.yield (acc ++ [(x, e.val)]))) :
    ∀ (l : List DictEntry) (kvs : List (Key × Value)) (names : List Str) (acc : List (Str × Value)), Pairs (mixKind prog w) l kvs → kvs.map (·.1) = names.map Sum.inr → (forIn l acc body : Sem (List (Str × Value))) = pure (acc ++ names.zip (kvs.map (·.2)))
  | [], _, names, acc, .nil, e => by cases names with
    | nil => simp
    | cons a as => simp at e
  | x :: l, kv :: kvs, names, acc, .cons hk hv r, e => by
    cases names with
    | nil => simp at e
    | cons n ns =>
      simp only [List.map_cons, List.cons.injEq] at e
      obtain ⟨e1, e2⟩ := e
      have hk' : keyIs kv.1 x.key = true := hk
      rw [e1] at hk'
      rcases keyIs_shape hk' with ⟨i, t, q, _⟩ | ⟨y, t, q, ey⟩
      · exact nomatch q
      · cases q
        rw [List.forIn_cons, hb x n t acc ey]
        show (forIn l (acc ++ [(n, x.val)]) body : Sem (List (Str × Value))) = _
        rw [kw_loop (β := β) hb l kvs ns (acc ++ [(n, x.val)]) r e2, hv]
        simp
theorem wp_kwIn {d : Addr} {f : Value} {kvs : List (Key × Value)} {names : List Str} {Q : List (Str × Value) → Shared → Prop} (hd : s.heap.DictOf (mixKind prog w) d kvs) (hk : kvs.map (·.1) = names.map Sum.inr) (hQ : Q (names.zip (kvs.map (·.2))) s) :
    wpAny (model prog w) A (keywordsIn f d) Q E s := by
  obtain ⟨o, es, ep, ho, hc, hdd, _, hp, _⟩ := hd
  unfold keywordsIn
  refine wpAny_bind (wpAny_dictEntries ho hdd ?_)
  refine wpAny_bind ?_
  rw [← Array.forIn_toList, kw_loop (prog := prog) (w := w) (β := Unit) (fun e x t acc q => by dsimp only; rw [q]) es.toList kvs names [] hp hk]
  exact wpAny_pure (wpAny_pure hQ)
end
section
variable {M : Model} {A : Around} {E : Value → Shared → Prop} {s : Shared}
theorem kw_call {f : Value} {first : List Value} {pos : Pos} {Q : Value → Shared → Prop} {P : Heap → Prop} {args : List (Bool × Sem Value)} {kws : List (Option Str × Sem Value)} (hst : args.any (·.1) = true)
    (hk : ∀ h, P h → ∃ k, (k = Keeper.frame ∨ k = Keeper.machine ∨ k = Keeper.boundFrame) ∧ PySem.W.Looks M h (keeperOf f) k)
    (h : wpAny M A (evalArgs f true args kws) (fun a s₁ => P s₁.heap ∧ wpAny M A (call f (first ++ a.pos) a.kw) Q E s₁) E s) : wpAny M A (callWith pos f first args kws) Q E s := by
  unfold callWith
  refine wpAny_bind (wpAny_holding (wpAny_mono h (fun a s₁ h₁ => wpAny_bind (wpAny_standAt ?_)) fun _ _ x => x))
  obtain ⟨k, hk', L⟩ := hk _ h₁.1
  simp only [hst, Bool.true_or]
  refine wpAny_bind (L.here ?_)
  have tail : ∀ {t : Sem Value}, wpAny M A t Q E s₁ → wpAny M A (t >>= fun r => holding [r] point >>= fun _ => pure r) Q E s₁ :=
    fun ht => wpAny_bind (wpAny_mono ht (fun r s₂ hr => wpAny_bind (wpAny_holding (wpAny_point (wpAny_pure hr)))) fun _ _ x => x)
  have marked (mk : Value) : wpAny M A (callMarked mk f (first ++ a.pos) a.kw) Q E s₁ := by unfold callMarked; exact Calls.wpAny_keep h₁.2
  rcases hk' with rfl | rfl | rfl <;> dsimp only <;> first | exact tail (marked _) | exact tail (wpAny_operating h₁.2)
end
section
variable {prog : Program} {w : World} {A : Around} {E : Value → Shared → Prop} {h : Heap} {g : Array GenState} {d : Drawn} {t : Nat} {os : OsState}
theorem attr_super {so D x C f : Addr} {of : Obj} {l₀ l : List Value} {K : PySem.W.Frag} {name : Str} {b : Bool} {Q : Value → Shared → Prop}
    (hso : h.get? so = some { cls := .type "super", dict := none, data := .fields #[.ref D, .ref x, .ref C], slots := #[] }) (hno : PySem.W.Looks (model prog w) h (opaqueClassAbove (.ref C)) none)
    (hC : PySem.W.Looks (model prog w) h (mroOf (.ref C)) l₀) (hl : (l₀.dropWhile (· != .ref D)).drop 1 = l) (X : K.In h)
    (hf : PySem.W.alongIn K name l = some (some (.ref f))) (hfo : h.get? f = some of) (hfc : of.cls = .type "function") (hxC : x ≠ C) (hn : (name == ("__class__" : Str)) = false)
    (hq : Q (.ref h.objs.size) ⟨h.push { cls := .type "method", data := .fields #[.ref f, .ref x] }, g, d, t + 1, os⟩) :
    wpAny (model prog w) A (getAttr (.ref so) name b) Q E ⟨h, g, d, t, os⟩ := by
  have hlk := PySem.F.ks_slot_super_ga.lookup
  have hT : ∀ t', (⟨h, g, d, t', os⟩ : Shared).TypeIs (.ref so) "super" := fun _ => ⟨_, hso, rfl⟩
  unfold getAttr getAttrBy
  refine wpAny_bind (wpAny_mkText (wpAny_holding (wpAny_bind (wpAny_typeOf (hT _) (wpAny_bind (wpAny_of_eq hlk ?_))))))
  show wpAny _ _ (getAttrByItsOwn (.ref so) (.str name t) (.type "super") (.builtin "super.__getattribute__") true b) _ _ _
  unfold getAttrByItsOwn hookBefore callGetattribute boundAndCalled
  refine wpAny_bind (wpAny_of_eq (show (if onTheHeap (.type "super") then typeLookup (.type "super") "__getattr__" else pure none) = pure none from rfl) ?_)
  refine wpAny_bind (wpAny_attempt (wpAny_holding ?_))
  have hoh : (b && onTheHeap (Value.builtin "super.__getattribute__")) = false := by cases b <;> rfl
  rw [hoh, if_neg Bool.false_ne_true]
  refine wpAny_bind (wpAny_of_eq (PySem.F.ks_slot_super_ga.bind _) ?_)
  refine wpAny_mono (Q := fun v s' => v = .ref h.objs.size ∧ s' = ⟨h.push { cls := .type "method", data := .fields #[.ref f, .ref x] }, g, d, t + 1, os⟩) (E := fun _ _ => False)
    (wpAny_call_entry PySem.F.ks_slot_super_ga (hT _) PySem.F.ks_entry_super_ga (PySem.ks_wpAny_super_ga hso hno hC hl X hf hfo hfc hxC hn ⟨_, rfl, rfl, rfl⟩) (PySem.F.ks_gaArgs_super _ _)) (fun v s' hv => ?_) fun _ _ z => z.elim
  obtain ⟨rfl, rfl⟩ := hv
  exact wpAny_pure hq
end
end Rz
namespace Rz
open PySem PySem.Spec PyProof.Rows L2 NdefX ClX
theorem kv_vals : ∀ {ks : List Str} {zs : List V} {vs : List (Key × Value)}, ks.length = zs.length → KV (kwD ks zs) vs → vs.map (·.1) = ks.map Sum.inr ∧ Vals zs (vs.map (·.2))
  | [], [], vs, _, r => by
    cases r
    exact ⟨rfl, .nil⟩
  | k :: ks, z :: zs, vs, hl, r => by
    have r : KV ((Sum.inr k, z) :: kwD ks zs) vs := r
    cases r with
    | cons a t =>
      obtain ⟨e1, e2⟩ := kv_vals (by simpa using hl) t
      refine ⟨?_, .cons a.2 e2⟩
      rw [List.map_cons, List.map_cons, e1, ← a.1]
section
variable {X : Cx} {pins : List (Addr × Obj)} {σ : L2.St} {H : Hp} {s : Shared}
theorem super_attr {name : Str} {b : Bool} {so Dd x C f2 dx : Addr} {ar : Str} {fs : List (Str × V)} {Q : Value → Shared → Prop} {E : Value → Shared → Prop} (U : SupAt X Dd ar) (I : Inv X ((so, PySem.W.ks_superObj Dd x C) :: pins) σ H s) (hx : H x = some (.ins C dx fs))
    (hm : PySem.W.ks_superIn X.K C Dd name = some (some (.ref f2))) (ht : PySem.W.typeIn X.K (.ref f2) = some (.type "function")) (hn : (name == ("__class__" : Str)) = false)
    (h : ∀ q s', X.base.get? q = none → Inv X ((q, PySem.W.methodObj (.ref f2) (.ref x)) :: (so, PySem.W.ks_superObj Dd x C) :: pins) σ H s' → Q (.ref q) s') : wpAny (model X.prog X.w) X.A (getAttr (.ref so) name b) Q E s := by
  have KI := I.kIn
  obtain ⟨mA, O, _⟩ := ins_get I.hok hx
  obtain ⟨odx, J, _⟩ := O.look
  cases hc : PySem.W.clsIn X.K C with
  | none => unfold PySem.W.ks_superIn at hm; rw [hc] at hm; cases hm
  | some cd =>
    have hm' := hm
    unfold PySem.W.ks_superIn at hm'
    rw [hc] at hm'
    obtain ⟨of, hof, hofc⟩ : ∃ of, s.heap.get? f2 = some of ∧ of.cls = .type "function" := by
      have ht' : (X.K.lookup f2).map (·.cls) = some (.type "function") := ht
      cases z : X.K.lookup f2 with
      | none => rw [z] at ht'; cases ht'
      | some of => rw [z] at ht'; exact ⟨of, KI _ _ z, Option.some.inj ht'⟩
    have hso := pin_at I
    have hbn : X.base.get? s.heap.objs.size = none := base_none I (Nat.le_refl _)
    obtain ⟨hh, g, d, t, os⟩ := s
    refine attr_super hso (PySem.W.looks_opaque KI U.opq) (l₀ := cd.mro) ?_ rfl KI hm' hof hofc (PySem.W.ks_ne KI J hc) hn ?_
    · exact fun A Q E s k q => wpAny_bind ((PySem.W.looks_clsIn KI hc) A _ E s k (wpAny_pure q))
    · exact h _ _ hbn (pin_new (s := ⟨hh, g, d, t, os⟩) (o := PySem.W.methodObj (.ref f2) (.ref x)) I (fun b o e => Heap.get?_push_of_some _ e) (Nat.le_refl _) (Heap.get?_push_at rfl rfl) (fun v z => nomatch z))
def Says (X : Cx) (σ : L2.St) (e : Expr) (v : V) : Prop := ∀ (pins : List (Addr × Obj)) (s : Shared) (H : Hp) (E : Value → Shared → Prop) (Q : Value → Shared → Prop), Inv X pins σ H s → (∀ u, RelV v u → Q u s) → wpAny (model X.prog X.w) X.A (eval e X.env) Q E s
theorem says_name {i : Nat} {x : Str} {v : V} {pos : Pos} (hN : X.N[i]? = some x) (hv : Vis X.env.scope x) (hσ : σ[i]? = some (some v)) (hd : (x == ("__debug__" : Str)) = false := by decide) (hcd : (x == ("__classdict__" : Str)) = false := by decide) : Says X σ (.Name x pos) v :=
  fun pins s H E Q I h => wpAny_Name (ld_name I hN hv hσ hcd h) hd
theorem args_kw {f : Value} {er em : Expr} {p o : Addr} {rods zs : List V} {ks : List Str} {pos : Pos} {Q : Args → Shared → Prop} {E : Value → Shared → Prop} (I : Inv X pins σ H s) (hr : Says X σ er (.ref p)) (hm : Says X σ em (.ref o)) (hp : SqT X.K H p rods) (ho : Rd H o (.dK (kwD ks zs))) (hl : ks.length = zs.length)
    (h : ∀ d s' us ws, H d = none → Inv X pins σ (upd H d (.dK (kwD ks zs))) s' → Vals rods us → Vals zs ws → Q ⟨us, ks.zip ws⟩ s') :
    wpAny (model X.prog X.w) X.A (evalArgs f true (backTo pos [(true, eval er X.env)]) (backToKw pos [(none, eval em X.env)])) Q E s := by
  refine wp_star_kw (hr pins s H E _ I fun u hu => ?_)
  obtain rfl : u = Value.ref p := hu
  refine wpAny_alloc ?_
  have I1 : Inv X pins σ (upd H s.heap.objs.size (.dK [])) { s with heap := s.heap.push { cls := .type "dict", data := .dict #[] } } := I.laid (a := s.heap.objs.size) (o := .dK []) (t' := s.toks) (fun _ _ q => Heap.get?_push_of_some _ q) (Nat.le_refl _) (dk_empty s.heap I.big)
  have hdn : H s.heap.objs.size = none := I.hok.fresh (Nat.le_refl _)
  generalize hs1 : ({ s with heap := s.heap.push { cls := .type "dict", data := .dict #[] } } : Shared) = s1 at I1 ⊢
  generalize s.heap.objs.size = d at I1 hdn ⊢
  refine hm pins s1 _ E _ I1 fun u hu => ?_
  obtain rfl : u = Value.ref o := hu
  have hdo : d ≠ o := by
    rintro rfl
    rcases ho with ho | ⟨_, ho⟩ <;> rw [hdn] at ho <;> cases ho
  have ho1 : Rd (upd H d (.dK [])) o (.dK (kwD ks zs)) := by
    rcases ho with ho | ⟨a, ho⟩
    · exact .inl (by rw [upd_ne (Ne.symm hdo)]; exact ho)
    · exact .inr ⟨a, by rw [upd_ne (Ne.symm hdo)]; exact ho⟩
  obtain ⟨z, hoS, vs, rel, dd⟩ := dk_rd I1.hok ho1
  obtain ⟨_, hdS, vs0, rel0, dd0⟩ := dk_of I1.hok (show upd H d (.dK []) d = some (.dK []) from upd_same)
  have e0 : vs0 = [] := by cases rel0; rfl
  subst e0
  refine wp_mergeMap0 hdo hoS dd0 dd (by rw [← rel.length]; exact z) fun h' dd' hs => ?_
  have he : ∃ q, h'.get? d = some q := let ⟨q, _, _, hq, _⟩ := dd'; ⟨q, hq⟩
  have I2 : Inv X pins σ (upd (upd H d (.dK [])) d (.dK (kwD ks zs))) { s1 with heap := h' } := d_write (t' := s1.toks) I1 (by rw [upd_same]; exact True.intro) hs he (dk_new z hdS rel dd')
  rw [upd_upd] at I2
  have hk : ∀ b u, H b = some u → upd H d (.dK (kwD ks zs)) b = some u := fun b u e => by rw [upd_ne (by rintro rfl; rw [hdn] at e; cases e)]; exact e
  have hp2 : SqT X.K (upd H d (.dK (kwD ks zs))) p rods := by
    rcases hp with (hp | ⟨q, hp⟩) | hp
    · exact .inl (.inl (hk _ _ hp))
    · exact .inl (.inr ⟨q, hk _ _ hp⟩)
    · exact .inr hp
  refine star_tup I2 hp2 fun us s3 I3 rv => ?_
  obtain ⟨_, _, vs3, rel3, dd3⟩ := dk_of I3.hok (show upd H d (.dK (kwD ks zs)) d = some (.dK (kwD ks zs)) from upd_same)
  obtain ⟨e1, e2⟩ := kv_vals hl rel3
  exact wp_kwIn dd3 e1 (h d s3 us _ hdn I3 rv e2)
theorem super_kw {b0 : List Stmt} {p0 p1 apos pos sp : Pos} {kp : Pos} {m ar : Str} {er em : Expr} {Dd x C dx f2 p o : Addr} {fs : List (Str × V)} {rods zs : List V} {ks : List Str} {Q : Value → Shared → Prop}
    (U : SupAt X Dd ar) (I : Inv X pins σ H s) (hat : (m == ("__class__" : Str)) = false) (hN : X.N[0]? = some ar) (hv : Vis X.env.scope ar) (har : (ar == ("__classdict__" : Str)) = false) (hσ : σ[0]? = some (some (.ref x))) (hx : H x = some (.ins C dx fs))
    (hsub : PySem.W.mroIn X.K C (.ref Dd) = some true) (hsup : PySem.W.ks_superIn X.K C Dd m = some (some (.ref f2))) (hty : PySem.W.typeIn X.K (.ref f2) = some (.type "function")) (hfi : PySem.W.fnIn X.K f2 = true)
    (hr : Says X σ er (.ref p)) (hm : Says X σ em (.ref o)) (hp : SqT X.K H p rods) (ho : Rd H o (.dK (kwD ks zs))) (hl : ks.length = zs.length)
    (h : ∀ q so d s' us ws, H d = none → Inv X ((q, PySem.W.methodObj (.ref f2) (.ref x)) :: (so, PySem.W.ks_superObj Dd x C) :: pins) σ (upd H d (.dK (kwD ks zs))) s' → Vals rods us → Vals zs ws → wpAny (model X.prog X.w) X.A (call (.ref q) us (ks.zip ws)) Q X.xe s')
    (ht : eval (.Call (.Attribute (.Call (.Name "super" p0) [] [] p1) m apos) [.Starred er sp] [⟨none, em, kp⟩] pos) X.env = (do
      let ov ← attributeBase (.Call (.Name "super" p0) [] [] p1) m X.env (eval (.Call (.Name "super" p0) [] [] p1) X.env)
      standAt apos.atName
      let (f, first) ← holding [ov] (do pure (← getAttr ov m true, []))
      let pos' ← pure pos
      callWith pos' f first (backTo pos [(true, eval er X.env)]) (backToKw pos [(none, eval em X.env)])) := by rfl) :
    PySem.wpAt (model X.prog X.w) X.A (.func b0 X.env) (eval (.Call (.Attribute (.Call (.Name "super" p0) [] [] p1) m apos) [.Starred er sp] [⟨none, em, kp⟩] pos) X.env) Q X.xe s := by
  rw [ht]
  refine PySem.wpAt_bind (PySem.wpAt_mono (super_obj U I hat hN hv har hσ hx hsub fun so s1 I1 => ?_) (fun ov s₁ (h₁ : wpAny (model X.prog X.w) X.A (do
      standAt apos.atName
      let (f, first) ← holding [ov] (do pure (← getAttr ov m true, []))
      let pos' ← pure pos
      callWith pos' f first (backTo pos [(true, eval er X.env)]) (backToKw pos [(none, eval em X.env)])) Q X.xe s₁) => PySem.wpAt_of_wpAny h₁) fun _ _ x => x)
  refine wpAny_bind (wpAny_standAt (wpAny_bind (wpAny_holding (wpAny_bind (super_attr U I1 hx hsup hty hat fun q s2 hb I2 => wpAny_pure ?_)))))
  refine wpAny_bind (wpAny_pure ?_)
  refine kw_call (P := PySem.W.MethP X.K q f2 (.ref x)) rfl (PySem.W.keeps_M hfi) (args_kw I2 hr hm hp ho hl fun d s3 us ws hd I3 r1 r2 => ⟨⟨pin_at I3, I3.kIn⟩, ?_⟩)
  exact h q so d s3 us ws hd I3 r1 r2
end
end Rz
namespace Rz
open PySem PySem.Spec PyProof.Rows L2 NdefX ClX
section
variable {prog : Program} {w : World} {A : Around} {E : Value → Shared → Prop}
theorem wp_nsSetD {s : Shared} {d : Addr} {es : List DictEntry} {n : Nat} {k : Str} {v : Value} {Q : Unit → Shared → Prop} (D : s.heap.get? d = some (PySem.W.dictOf es n))
    (hs : ∀ e ∈ es, e.key.isStr k = false) (hr : ∀ e ∈ es, e.refKey = false)
    (h : ∀ h', h'.get? d = some (PySem.W.dictOf (es ++ [⟨PyData.keyHash w.params k, .str k s.toks, v⟩]) (n + 1)) → Heap.SameBut d s.heap h' → Q () { s with heap := h', toks := s.toks + 1 }) :
    wpAny (model prog w) A (nsSet d k v) Q E s := by
  have e1 : es.any (·.key.isStr k) = false := by
    cases q : es.any (·.key.isStr k) with
    | false => rfl
    | true => obtain ⟨e, he, z⟩ := List.any_eq_true.mp q; rw [hs e he] at z; cases z
  have e2 : es.any (·.refKey) = false := by
    cases q : es.any (·.refKey) with
    | false => rfl
    | true => obtain ⟨e, he, z⟩ := List.any_eq_true.mp q; rw [hr e he] at z; cases z
  have e : Obj.putName k (PyData.keyHash w.params k) (.str k s.toks) v (PySem.W.dictOf es n) = PySem.W.dictOf (es ++ [⟨PyData.keyHash w.params k, .str k s.toks, v⟩]) (n + 1) := by
    rw [PySem.W.putName_dict, PySem.W.putL_new hs]
    show PySem.W.dictOf _ (if es.any (·.key.isStr k) then n else n + 1) = _
    rw [e1, if_neg Bool.false_ne_true]
  have c : aRefKeyMayBeTheName k es.toArray = false := by
    rw [aRefKeyMayBeTheName_at, ← Array.any_toList, ← Array.any_toList]
    show (!es.any (·.key.isStr k) && es.any (·.refKey)) = false
    rw [e2, Bool.and_false]
  unfold nsSet
  refine wpAny_bind (wpAny_bind (wpAny_askSetting (wpAny_pure (wpAny_bind (wpAny_mkText (wpAny_bind (wpAny_loadPart D ?_)))))))
  dsimp only
  rw [c]
  exact wpAny_updatePart D (h _ ((Heap.get?_update_self (Obj.putName k (PyData.keyHash w.params k) (.str k s.toks) v) D (by rw [e]; rfl)).trans (congrArg some e)) (Heap.SameBut.update ..))
theorem wp_fill {d : Addr} {Q : PUnit → Shared → Prop} : ∀ (ex : List (Str × Value)) (s : Shared) (es : List DictEntry) (n : Nat), s.heap.get? d = some (PySem.W.dictOf es n) →
    (∀ e ∈ es, ∀ x ∈ ex, e.key.isStr x.1 = false) → (∀ e ∈ es, e.refKey = false) → (ex.map (·.1)).Nodup →
    (∀ h', h'.get? d = some (PySem.W.dictOf (es ++ PySem.W.kwEs w.params s.toks ex) (n + ex.length)) → Heap.SameBut d s.heap h' → Q ⟨⟩ { s with heap := h', toks := s.toks + ex.length }) →
    wpAny (model prog w) A (forIn ex PUnit.unit fun x _ => (nsSet d x.1 x.2 >>= fun _ => pure (ForInStep.yield PUnit.unit))) Q E s
  | [], s, es, n, D, _, _, _, h => by
    rw [List.forIn_nil]
    refine wpAny_pure (h s.heap ?_ (Heap.SameBut.refl _ _))
    show s.heap.get? d = some (PySem.W.dictOf (es ++ []) n)
    rw [List.append_nil]
    exact D
  | x :: r, s, es, n, D, hs, hr, hn, h => by
    obtain ⟨hn1, hn2⟩ := List.nodup_cons.mp (show (x.1 :: r.map (·.1)).Nodup from hn)
    rw [List.forIn_cons]
    refine wpAny_bind (wpAny_bind (wp_nsSetD D (fun e he => hs e he x (.head _)) hr fun h' D' S' => wpAny_pure ?_))
    show wpAny (model prog w) A (forIn r PUnit.unit fun x _ => (nsSet d x.1 x.2 >>= fun _ => pure (ForInStep.yield PUnit.unit))) Q E { s with heap := h', toks := s.toks + 1 }
    refine wp_fill r { s with heap := h', toks := s.toks + 1 } _ _ D' (fun e he y hy => ?_) (fun e he => ?_) hn2 fun h'' D'' S'' => ?_
    · rcases List.mem_append.mp he with he | he
      · exact hs e he y (.tail _ hy)
      · obtain rfl := List.mem_singleton.mp he
        show (x.1 == y.1) = false
        exact beq_eq_false_iff_ne.mpr fun q => hn1 (by rw [q]; exact List.mem_map_of_mem hy)
    · rcases List.mem_append.mp he with he | he
      · exact hr e he
      · obtain rfl := List.mem_singleton.mp he
        rfl
    · have t1 : s.toks + 1 + r.length = s.toks + (r.length + 1) := by omega
      have t2 : n + 1 + r.length = n + (r.length + 1) := by omega
      show Q ⟨⟩ { s with heap := h'', toks := s.toks + 1 + r.length }
      rw [t1]
      refine h h'' ?_ (S'.trans S'')
      rw [t2, List.append_assoc] at D''
      exact D''
theorem kw_pairs : ∀ (ex : List (Str × Value)) (t : Tok), Pairs (mixKind prog w) (PySem.W.kwEs w.params t ex) (ex.map fun x => (Sum.inr x.1, x.2))
  | [], _ => .nil
  | x :: r, t => .cons (mixKind_str prog w x.1 t) rfl (kw_pairs r (t + 1))
theorem kw_dict {h : Heap} {d : Addr} {ex : List (Str × Value)} {t : Tok} {n : Nat} (hn : (ex.map (·.1)).Nodup) (D : h.get? d = some (PySem.W.dictOf (PySem.W.kwEs w.params t ex) n)) : h.DictOf (mixKind prog w) d (ex.map fun x => (Sum.inr x.1, x.2)) := by
  refine ⟨_, (PySem.W.kwEs w.params t ex).toArray, n, D, ⟨rfl, rfl, rfl⟩, rfl, fun e he => ?_, kw_pairs ex t, ?_⟩
  · obtain ⟨k, u, hk, hh⟩ := PySem.W.kwEs_key ex t e (List.mem_toArray.mp he)
    exact ⟨Sum.inr k, by rw [hk]; exact mixKind_str prog w k u, hh.trans rfl⟩
  · rw [List.map_map]
    have e : (ex.map ((fun x => x.1) ∘ fun x : Str × Value => ((Sum.inr x.1 : Key), x.2))) = (ex.map (·.1)).map Sum.inr := by rw [List.map_map]; rfl
    rw [e]
    exact List.pairwise_map.mpr (hn.imp fun h q => h (Sum.inr.inj q))
end
section
variable {P : Program} {w : World} {K : PySem.W.Frag} {mg : Str → Option Value} {base : Heap} {A : Around} {outer : List PySem.Env} {s : Shared} {H : Hp}
theorem env0_new {h' : Heap} {a : Addr} {u : HO} {t : Nat} (e0 : Env0 P w K mg base A outer s H) (kp : ∀ b x, s.heap.get? b = some x → h'.get? b = some x) (hsz : s.heap.objs.size ≤ a) (hs2 : s.heap.objs.size ≤ h'.objs.size) (new : ObjOk P w (upd H a u) h' a u) :
    Env0 P w K mg base A outer { s with heap := h', toks := t } (upd H a u) := by
  refine ⟨e0.frames, e0.mod, fun b x e => ⟨kp b x (e0.bs b x e).1, ?_⟩, Nat.le_trans e0.bsz hs2, Heap.FunFrames.of_keeps (fun b x e _ => ⟨x, kp b x e, rfl⟩) e0.funs, fun b hb => ?_, e0.hok.laid kp hsz new, e0.bare⟩
  · rw [upd_ne (Nat.ne_of_lt (Nat.lt_of_lt_of_le (Heap.lt_size (e0.bs b x e).1) hsz))]
    exact (e0.bs b x e).2
  · obtain ⟨_, x, hx, _⟩ := e0.funs.mem hb
    rw [upd_ne (Nat.ne_of_lt (Nat.lt_of_lt_of_le (Heap.lt_size hx) hsz))]
    exact e0.frf b hb
theorem bind_kw {A' : Around} {fd : FuncData} {args : Args} {front : List (Str × Value)} {rods : List Value} {rv : List V} {nr nm : Str} {mk : List Str} {mv : List Value} {mz : List V} {Q : List (Str × Value) → Shared → Prop} {E : Value → Shared → Prop}
    (hb : bindArgs fd args = (newTuple rods >>= fun t => (alloc ({ cls := .type "dict", data := .dict #[] } : Obj) : Sem Addr) >>= fun d =>
      (forIn (mk.zip mv) PUnit.unit fun x _ => (nsSet d x.1 x.2 >>= fun _ => pure (ForInStep.yield PUnit.unit))) >>= fun _ => pure (front ++ [(nr, t), (nm, Value.ref d)])))
    (e0 : Env0 P w K mg base A outer s H) (r1 : Vals rv rods) (r2 : Vals mz mv) (hl : mk.length = mz.length) (hn : mk.Nodup) (hz : rv.length ≤ sizeLine) (hz2 : mz.length ≤ sizeLine)
    (h : ∀ p d s', H p = none → H d = none → d ≠ p → Env0 P w K mg base A outer s' (upd (upd H p (.tup rv)) d (.dK (kwD mk mz))) → Un (frs outer) [] H (upd (upd H p (.tup rv)) d (.dK (kwD mk mz))) s.heap s'.heap → s'.os = s.os →
      (∀ b o, s.heap.get? b = some o → s'.heap.get? b = some o) → Q (front ++ [(nr, .ref p), (nm, .ref d)]) s') :
    wpAny (model P w) A' (bindArgs fd args) Q E s := by
  rw [hb]
  have hl1 := r1.length
  refine wpAny_bind (wpAny_newTuple ?_ (by omega))
  refine wpAny_bind (wpAny_alloc ?_)
  have hn0 : H s.heap.objs.size = Option.none := e0.hok.fresh (Nat.le_refl _)
  have new : ObjOk P w (upd H s.heap.objs.size (.tup rv)) (s.heap.push ({ cls := .type "tuple", data := .seq rods.toArray } : Obj)) s.heap.objs.size (.tup rv) := ⟨hz, rods, r1, ⟨_, Heap.get?_push_size _ rfl, rfl, _, rfl⟩⟩
  have e1 := StX.env0_laid e0 new
  have un1 := StX.un_laid (fs := frs outer) (s := s) (o := ({ cls := .type "tuple", data := .seq rods.toArray } : Obj)) (u := .tup rv) hn0
  have sz : (s.heap.push ({ cls := .type "tuple", data := .seq rods.toArray } : Obj)).objs.size = s.heap.objs.size + 1 := Heap.size_push _ _
  have hd : H (s.heap.push ({ cls := .type "tuple", data := .seq rods.toArray } : Obj)).objs.size = Option.none := e0.hok.fresh (by rw [sz]; exact Nat.le_succ _)
  have kp1 : ∀ b o, s.heap.get? b = some o → (s.heap.push ({ cls := .type "tuple", data := .seq rods.toArray } : Obj)).get? b = some o := fun b o q => Heap.get?_push_of_some _ q
  have hne : (s.heap.push ({ cls := .type "tuple", data := .seq rods.toArray } : Obj)).objs.size ≠ s.heap.objs.size := by rw [sz]; exact Nat.succ_ne_self _
  have big := StX.env0_big e1
  have hd1 : upd H s.heap.objs.size (.tup rv) (s.heap.push ({ cls := .type "tuple", data := .seq rods.toArray } : Obj)).objs.size = Option.none := e1.hok.fresh (Nat.le_refl _)
  generalize hp : s.heap.objs.size = p at *
  generalize hh1 : s.heap.push ({ cls := .type "tuple", data := .seq rods.toArray } : Obj) = h1 at *
  have vl : mk.length = mv.length := hl.trans r2.length
  have hnd : ((mk.zip mv).map (·.1)).Nodup := by rw [List.map_fst_zip (by omega)]; exact hn
  refine wpAny_bind (wp_fill (d := h1.objs.size) (mk.zip mv) _ [] 0 (Heap.get?_push_size _ rfl) (fun _ q => nomatch q) (fun _ q => nomatch q) hnd fun h' D' S' => wpAny_pure ?_)
  have kp2 : ∀ b o, h1.get? b = some o → h'.get? b = some o := fun b o q => (S'.2 b (Nat.ne_of_lt (Heap.lt_size q))).trans (Heap.get?_push_of_some _ q)
  have dd := kw_dict (prog := P) (w := w) hnd D'
  have hz3 : (kwD mk mz).length ≤ sizeLine := by unfold kwD; simp; omega
  have rel : KV (kwD mk mz) ((mk.zip mv).map fun x => ((Sum.inr x.1 : Key), x.2)) := by
    clear hb h hnd dd D' hz3 hz2 hn
    induction r2 generalizing mk with
    | nil => cases mk with
      | nil => exact .nil
      | cons a as => simp at hl
    | cons a t ih => cases mk with
      | nil => simp at hl
      | cons k ks => exact .cons ⟨rfl, a⟩ (ih (by simpa using hl) (by simpa using vl))
  have nd : ObjOk P w (upd (upd H p (.tup rv)) h1.objs.size (.dK (kwD mk mz))) h' h1.objs.size (.dK (kwD mk mz)) := dk_new hz3 (beq_eq_false_iff_ne.mpr (Ne.symm (Nat.ne_of_lt big))) rel dd
  have e2 := env0_new (t := (s.toks + (mk.zip mv).length)) e1 kp2 (Nat.le_refl _) (by have := S'.1; rw [this]; rw [Heap.size_push]; exact Nat.le_succ _) nd
  have un2 : Un (frs outer) [] (upd H p (.tup rv)) (upd (upd H p (.tup rv)) h1.objs.size (.dK (kwD mk mz))) h1 h' := Un.laid kp2 (Nat.le_refl _) hd1
  exact h p h1.objs.size _ hn0 hd hne e2 (un1.trans un2) rfl (fun b o q => kp2 b o (kp1 b o q))
end
end Rz
namespace Rz
open PySem PySem.Spec PyProof.Rows L2 NdefX ClX
def pick {α : Type} (is : List Nat) (l : List α) : List α := is.filterMap fun i => l[i]?
def unfz : Env → Option (List D)
  | [] => some []
  | .fz d :: r => (unfz r).map (d :: ·)
  | _ => none
def packI (nk : Nat) (oi mi : List Nat) (mk : List DK) (args : Env) : Option Env := match args with
  | sl :: r => match unfz r with
    | some ds => some ((sl :: (pick oi (ds.drop (ds.length - nk)) ++ [D.tup (ds.take (ds.length - nk))]).map Sl.fz) ++ [.md (mk.zip (pick mi (ds.drop (ds.length - nk))))])
    | none => none
  | [] => none
def initF (nl L nk : Nat) (oi mi : List Nat) (mk : List DK) (m : M Fl) (args : Env) : Res := match packI nk oi mi mk args with
  | some a => match bodyF nl [0, L] m a with
    | .ret v o => .ret v (o.take 1)
    | .exc x o => .exc x (o.take 1)
    | .bad => .bad
  | none => .bad
section
variable {K : PySem.W.Frag} {G : Nat → Addr} {w w' : Wd} {F : Hp}
theorem RepL.pick (h : RepL K G F vs ds) : ∀ (is : List Nat), RepL K G F (Rz.pick is vs) (Rz.pick is ds)
  | [] => .nil
  | i :: is => by
    have ih := RepL.pick h is
    have hl := h.length
    unfold Rz.pick at ih ⊢
    rw [List.filterMap_cons, List.filterMap_cons]
    cases e : ds[i]? with
    | none =>
      have e2 : vs[i]? = none := by
        rw [List.getElem?_eq_none_iff] at e ⊢
        omega
      rw [e2]
      exact ih
    | some d =>
      obtain ⟨v, ev, r⟩ := h.get e
      rw [ev]
      exact .cons r ih
theorem unfz_rep : ∀ {r : Env} {ds : List D} {vs : List V} {j : Nat}, unfz r = some ds → vs.length = r.length → (∀ (i : Nat) (s : Sl), r[i]? = some s → ∃ v, vs[i]? = some v ∧ SlotR K G w (i + j) (some v) s) → RepL K G w.F vs ds
  | [], ds, [], j, e, hl, h => by cases e; exact .nil
  | s :: r, ds, v :: vs, j, e, hl, h => by
    cases s with
    | fz d =>
      have e : (unfz r).map (d :: ·) = some ds := e
      cases q : unfz r with
      | none => rw [q] at e; cases e
      | some es =>
        rw [q] at e
        cases e
        obtain ⟨v', ev, u, eu, ru⟩ := h 0 (.fz d) rfl
        cases ev
        cases eu
        refine .cons ru (unfz_rep (j := j + 1) q (by simpa using hl) fun i s e => ?_)
        obtain ⟨v2, e2, r2⟩ := h (i + 1) s (by simpa using e)
        refine ⟨v2, by simpa using e2, ?_⟩
        have : i + (j + 1) = i + 1 + j := by omega
        rw [this]; exact r2
    | _ => cases e
theorem argR_mk {self : V} {sl : Sl} {vs : List V} {ds : List D} (h : SlotR K G w 0 (some self) sl) (r : RepL K G w.F vs ds) (t : Tk K w) : ArgR K G w (self :: vs) (sl :: ds.map .fz) := by
  refine ⟨by simp [r.length], fun i s e => ?_, t⟩
  cases i with
  | zero =>
    have e : sl = s := by simpa using e
    subst e
    exact ⟨self, rfl, h⟩
  | succ i =>
    have e : (ds.map Sl.fz)[i]? = some s := by simpa using e
    rw [List.getElem?_map] at e
    cases q : ds[i]? with
    | none => rw [q] at e; cases e
    | some d =>
      rw [q] at e
      cases e
      obtain ⟨v, ev, rv⟩ := r.get q
      exact ⟨v, by simpa using ev, v, rfl, rv⟩
theorem ArgR.snoc {vs : List V} {args : Env} {v : V} {s : Sl} (h : ArgR K G w vs args) (hs : SlotR K G w vs.length (some v) s) : ArgR K G w (vs ++ [v]) (args ++ [s]) := by
  obtain ⟨h1, h2, h3⟩ := h
  refine ⟨by simp [h1], fun i s' e => ?_, h3⟩
  by_cases hi : i < args.length
  · rw [List.getElem?_append_left hi] at e
    obtain ⟨u, eu, ru⟩ := h2 i s' e
    exact ⟨u, by rw [List.getElem?_append_left (by omega)]; exact eu, ru⟩
  · have hi' : i = args.length := by
      have := (List.getElem?_eq_some_iff.mp e).1
      simp at this
      omega
    subst hi'
    rw [List.getElem?_append_right (Nat.le_refl _)] at e
    simp at e
    subst e
    exact ⟨v, by rw [← h1, List.getElem?_append_right (Nat.le_refl _)]; simp, by rw [← h1]; exact hs⟩
theorem rep_kw : ∀ {mk : List DK} {zs : List V} {ds : List D}, RepL K G F zs ds → RepK K G F ((mk.map kyV).zip zs) (mk.zip ds)
  | [], _, _, _ => .nil
  | _ :: _, _, _, .nil => .nil
  | _ :: _, _, _, .cons r t => .cons r (rep_kw t)
theorem own_step {d : Addr} {o : HO} {i : Nat} (ok : w.Ok) (hd : w.H d = none) : Step w ((w.new d o).own d i) where
  f := Same.refl _
  o := fun b x e k => by
    have q : b ≠ d := ne_of_none e hd
    exact ⟨by show upd w.H d o b = _; rw [upd_ne q]; exact e, by show (if b = d then _ else _) = _; rw [if_neg q]; exact k⟩
  d := fun b e => by
    have e : upd w.H d o b = none := e
    by_cases q : b = d
    · subst q; exact hd
    · rw [upd_ne q] at e; exact e
  t := fun b j => by
    show _ ↔ (if b = d then _ else _) = _
    by_cases q : b = d
    · subst q
      rw [if_pos rfl]
      refine ⟨fun e => ?_, fun z => by cases z⟩
      obtain ⟨x, ex⟩ := (ok.kt b j e).some
      rw [hd] at ex; cases ex
    · rw [if_neg q]; exact Iff.rfl
  w := fun b j e => by
    obtain ⟨x, ex⟩ := ok.ko b j e
    have q : b ≠ d := ne_of_none ex hd
    exact .inl (by show (if b = d then _ else _) = _; rw [if_neg q]; exact e)
theorem FrR.back {w2 : Wd} (h : ∀ a, w2.H a = none → w.H a = none) {u : V} : ∀ {v : Sl}, FrR K G w2 w' u v → FrR K G w w' u v
  | .un, r => r
  | .fz _, r => r
  | .ml _, ⟨a, vs, e, k, r⟩ => ⟨a, vs, e, h _ k, r⟩
  | .md _, ⟨a, vs, e, k, r⟩ => ⟨a, vs, e, h _ k, r⟩
  | .mi _ _, ⟨a, dx, vs, e, k, r⟩ => ⟨a, dx, vs, e, h _ k, r⟩
theorem init_sp {nl L nk : Nat} {oi mi : List Nat} {mk : List DK} {m : M Fl} {self : V} {rv zs : List V} {H : Hp} {Q : VK} {E : XK} {n : Nat} {p d : Addr} (hL : L = (pick oi zs).length + 2) (hnk : zs.length = nk) (hz : rv.length ≤ sizeLine)
    (h : spM K G n [0] (initF nl L nk oi mi mk m) (self :: rv ++ zs) H Q E) (hp : H p = none) (hd : H d = none) (hne : d ≠ p) :
    spM K G (L + 1) [0, L] (bodyF nl [0, L] m) ((self :: (pick oi zs ++ [V.ref p])) ++ [V.ref d]) (upd (upd H p (.tup rv)) d (.dK ((mk.map kyV).zip (pick mi zs)))) Q E := by
  obtain ⟨hlen, w, args, rfl, ok, ar, own, h⟩ := h
  cases args with
  | nil => exact h.elim
  | cons sl r =>
    unfold initF packI at h
    dsimp only at h
    cases hu : unfz r with
    | none => rw [hu] at h; exact h.elim
    | some ds =>
      rw [hu] at h
      dsimp only at h
      obtain ⟨a1, a2, a3⟩ := ar
      obtain ⟨v0, e0, r0⟩ := a2 0 sl rfl
      have e0 : self = v0 := by simpa using e0
      subst e0
      have rl : RepL K G w.F (rv ++ zs) ds := unfz_rep (j := 1) hu (by simpa using a1) fun i s e => a2 (i + 1) s (by simpa using e)
      have hds : ds.length - nk = rv.length := by
        have := rl.length
        simp at this
        omega
      rw [hds] at h
      have rr : RepL K G w.F rv (ds.take rv.length) := by
        have := rl.take rv.length
        rwa [List.take_left'] at this
        rfl
      have rz : RepL K G w.F zs (ds.drop rv.length) := by
        have := rl.drop rv.length
        rwa [List.drop_left'] at this
        rfl
      have ok1 := Wd.frz_ok ok (o := .tup rv) hp
      have g1 := Wd.frz_grw ok (o := .tup rv) hp
      have hd1 : (w.frz p (.tup rv)).H d = none := by
        show upd w.H p _ d = none
        rw [upd_ne hne]; exact hd
      have rm := rep_kw (mk := mk) ((rz.pick mi).mono g1.f)
      have st := own_step (o := .dK ((mk.map kyV).zip (pick mi zs))) (i := L) ok1 hd1
      have okn := Wd.new_ok ok1 (o := .dK ((mk.map kyV).zip (pick mi zs))) hd1
      have hdn : ((w.frz p (.tup rv)).new d (.dK ((mk.map kyV).zip (pick mi zs)))).H d = some (.dK ((mk.map kyV).zip (pick mi zs))) := upd_same
      have kd : (w.frz p (.tup rv)).k d ≠ .frz := by rw [ok1.k_oth hd1]; intro z; cases z
      have ok2 := Wd.own_ok okn (i := L) hdn kd
      have s2 : Step w (((w.frz p (.tup rv)).new d (.dK ((mk.map kyV).zip (pick mi zs)))).own d L) := (g1.step ok).trans ok1 ok2 st
      generalize hw2 : ((w.frz p (.tup rv)).new d (.dK ((mk.map kyV).zip (pick mi zs)))).own d L = w2 at *
      have hH2 : w2.H = upd (upd w.H p (.tup rv)) d (.dK ((mk.map kyV).zip (pick mi zs))) := by rw [← hw2]; rfl
      have hF2 : w2.F = upd w.F p (.tup rv) := by rw [← hw2]; rfl
      have hk2 : w2.k d = .own L := by rw [← hw2]; show (if d = d then _ else _) = _; rw [if_pos rfl]
      have r02 : SlotR K G w2 0 (some self) sl := by
        have gg : Grw w (w.frz p (.tup rv)) := g1
        have q := SlotR.grow ok gg r0
        have q2 : SlotR K G ((w.frz p (.tup rv)).new d (.dK ((mk.map kyV).zip (pick mi zs)))) 0 (some self) sl := SlotR.grow ok1 (Wd.new_grw hd1) q
        rw [← hw2]
        cases sl with
        | un => trivial
        | fz _ => exact q2
        | ml _ =>
          obtain ⟨a, vs, e, k, hh, rr⟩ := q2
          refine ⟨a, vs, e, ?_, hh, rr⟩
          show (if a = d then _ else _) = _
          have : a ≠ d := by rintro rfl; have k : (w.frz p (.tup rv)).k a = .own 0 := k; rw [ok1.k_oth hd1] at k; cases k
          rw [if_neg this]; exact k
        | md _ =>
          obtain ⟨a, vs, e, k, hh, rr⟩ := q2
          refine ⟨a, vs, e, ?_, hh, rr⟩
          show (if a = d then _ else _) = _
          have : a ≠ d := by rintro rfl; have k : (w.frz p (.tup rv)).k a = .own 0 := k; rw [ok1.k_oth hd1] at k; cases k
          rw [if_neg this]; exact k
        | mi _ _ =>
          obtain ⟨a, dx, vs, e, k, hh, rr⟩ := q2
          refine ⟨a, dx, vs, e, ?_, hh, rr⟩
          show (if a = d then _ else _) = _
          have : a ≠ d := by rintro rfl; have k : (w.frz p (.tup rv)).k a = .own 0 := k; rw [ok1.k_oth hd1] at k; cases k
          rw [if_neg this]; exact k
      have rp : Rep K G w2.F (.ref p) (.tup (ds.take rv.length)) := .tup (.inl (.inl (by rw [hF2]; exact upd_same))) (by rw [hF2]; exact rr.mono g1.f)
      have rl2 : RepL K G w2.F (pick oi zs ++ [V.ref p]) (pick oi (ds.drop rv.length) ++ [D.tup (ds.take rv.length)]) := RepL.append (by rw [hF2]; exact (rz.pick oi).mono g1.f) (.cons rp .nil)
      have ar2 := argR_mk r02 rl2 (a3.step s2)
      have hlen2 : (self :: (pick oi zs ++ [V.ref p])).length = L := by simp; omega
      have ar3 := ArgR.snoc (v := .ref d) (s := .md (mk.zip (pick mi (ds.drop rv.length)))) ar2 (by
        rw [hlen2]
        exact ⟨d, _, rfl, hk2, by rw [hH2]; exact upd_same, by rw [hF2]; exact rm⟩)
      refine ⟨by rw [List.length_append, hlen2]; rfl, w2, _, hH2, ok2, ar3, fun a i e => ?_, ?_⟩
      · by_cases q : a = d
        · subst q
          rw [hk2] at e; cases e
          simp
        · have e2 : (if a = d then Kd.own L else if a = p then Kd.frz else w.k a) = .own i := by rw [← hw2] at e; exact e
          rw [if_neg q] at e2
          by_cases q2 : a = p
          · rw [if_pos q2] at e2; cases e2
          · rw [if_neg q2] at e2
            have := own a i e2
            simp at this
            simp [this]
      · have ho : ∀ {w' : Wd} {o : Env}, OutR K G w' (self :: (pick oi zs ++ [V.ref p]) ++ [V.ref d]) [0, L] o → OutR K G w' (self :: rv ++ zs) [0] (o.take 1) := by
          intro w' o r j i s hj hs
          cases j with
          | succ j => simp at hj
          | zero =>
            simp at hj
            subst hj
            obtain ⟨v, ev, rv'⟩ := r 0 0 s rfl (by rw [List.getElem?_take] at hs; simpa using hs)
            exact ⟨v, by simpa using ev, rv'⟩
        cases hb : bodyF nl [0, L] m ((sl :: (pick oi (ds.drop rv.length) ++ [D.tup (ds.take rv.length)]).map Sl.fz) ++ [.md (mk.zip (pick mi (ds.drop rv.length)))]) with
        | bad => rw [hb] at h; exact h.elim
        | ret v o =>
          rw [hb] at h
          exact fun u w' ok' s' q out => h u w' ok' (s2.trans ok2 ok' s') (FrR.back s2.d q) (ho out)
        | exc x o =>
          rw [hb] at h
          exact fun c d' w' ok' s' q out => h c d' w' ok' (s2.trans ok2 ok' s') q (ho out)
end
end Rz
namespace Rz
open PySem PySem.Spec PyProof.Rows L2 NdefX ClX
theorem vals_get : ∀ {vs : List V} {us : List Value} {i : Nat}, Vals vs us → (vs[i]? = none ∧ us[i]? = none) ∨ ∃ v u, vs[i]? = some v ∧ us[i]? = some u ∧ RelV v u
  | _, _, _, .nil => .inl ⟨rfl, rfl⟩
  | _, _, 0, .cons r _ => .inr ⟨_, _, rfl, rfl, r⟩
  | _, _, i + 1, .cons _ t => by
    rcases vals_get (i := i) t with ⟨a, b⟩ | ⟨v, u, a, b, r⟩
    · exact .inl ⟨by simpa using a, by simpa using b⟩
    · exact .inr ⟨v, u, by simpa using a, by simpa using b, r⟩
theorem vals_pick {vs : List V} {us : List Value} (h : Vals vs us) : ∀ (is : List Nat), Vals (pick is vs) (pick is us)
  | [] => .nil
  | i :: is => by
    have ih := vals_pick h is
    unfold pick at ih ⊢
    rw [List.filterMap_cons, List.filterMap_cons]
    rcases vals_get (i := i) h with ⟨a, b⟩ | ⟨v, u, a, b, r⟩
    · rw [a, b]; exact ih
    · rw [a, b]; exact .cons r ih
theorem pick_length {α : Type} {l : List α} : ∀ {is : List Nat}, (∀ i ∈ is, i < l.length) → (pick is l).length = is.length
  | [], _ => rfl
  | i :: is, h => by
    have ih := pick_length (l := l) (is := is) fun j hj => h j (.tail _ hj)
    have e : l[i]? = some (l[i]'(h i (.head _))) := List.getElem?_eq_getElem _
    unfold pick at ih ⊢
    rw [List.filterMap_cons, e]
    simpa using ih
structure FnI (P : Program) (w : World) (K : PySem.W.Frag) (mg : Str → Option Value) (base : Heap) (G : Nat → Addr) (k : Nat) (f : Addr) (ks : List Str) (F : Env → Res) : Prop where
  run : ∀ (A : Around) (outer : List PySem.Env) (s : Shared) (H : Hp) (us ws : List Value) (self : V) (rv zs : List V) (Q : VK) (E : XK), Room k A → Env0 P w K mg base A outer s H → Vals (self :: rv) us → Vals zs ws → zs.length = ks.length → rv.length ≤ sizeLine → zs.length ≤ sizeLine →
    spM K G ((self :: rv ++ zs).length) [0] F (self :: rv ++ zs) H Q E → codeAny (model P w) A (.call (.ref f) ⟨us, ks.zip ws⟩) (CR (L2.CX P w) outer P w H s Q E) s
section
variable {P : Program} {w : World} {K : PySem.W.Frag} {mg : Str → Option Value} {base : Heap} {k : Nat} {f cc cda Dd : Addr} {name qual : Str} {params : Arguments} {body : List Stmt} {scope : Scope} {dV kV doc pm ct oc cl : Value} {an od cld : Option Addr}
    {osl csl : Array (Option Value)} {N : List Str} {G : Nat → Addr} {m : M Fl} {s0 nr nm : Str} {on ks : List Str} {oi mi : List Nat} {mk : List DK} {mkn : List Str} {L : Nat}
theorem fnI_of (lk : K.lookup f = some ⟨oc, od, .func (PySem.W.fnX name qual params body scope [("__class__", cc)] dV kV doc pm an (.ref cda) ct), osl⟩) (hcd : PySem.W.codeIn K (.ref cda) qual = true) (lc : K.lookup cc = some ⟨cl, cld, .cell (some (.ref Dd)), csl⟩)
    (S : NScope N ((s0 :: on) ++ [nr, nm]) ["__class__"] scope) (hL : L = on.length + 2) (hoi : ∀ i ∈ oi, i < ks.length) (hmi : ∀ i ∈ mi, i < ks.length) (hon : oi.length = on.length) (hml : mi.length = mk.length) (hmk : mk.map kyV = mkn.map Sum.inr) (hnd : mkn.Nodup) (hms : mi.length ≤ sizeLine)
    (hb : ∀ (self : Value) (rods ws : List Value), ws.length = ks.length → bindArgs (PySem.W.fnX name qual params body scope [("__class__", cc)] dV kV doc pm an (.ref cda) ct) ⟨self :: rods, ks.zip ws⟩ =
      (newTuple rods >>= fun t => (alloc ({ cls := .type "dict", data := .dict #[] } : Obj) : Sem Addr) >>= fun d =>
      (forIn (mkn.zip (pick mi ws)) PUnit.unit fun x _ => (nsSet d x.1 x.2 >>= fun _ => pure (ForInStep.yield PUnit.unit))) >>= fun _ => pure ((s0 :: on).zip (self :: pick oi ws) ++ [(nr, t), (nm, Value.ref d)])))
    (hbody : ∀ (A : Around) (outer : List PySem.Env) (s : Shared) (H : Hp) (E : XK), Room k (A.deeper (envF (nfC name qual params body scope cc cda) f s.heap.objs.size)) → SndBA G (ncx (L2.CX P w) P w K mg base N (nfC name qual params body scope cc cda) f A outer s H E) (WXE E) [0, L] body body m) :
    FnI P w K mg base G (k + 1) f ks (initF N.length L ks.length oi mi mk m) := by
  have hps : ((s0 :: on) ++ [nr, nm]).length = L + 1 := by simp [hL]
  have hN : ((s0 :: on) ++ [nr, nm]).length + 1 ≤ N.length := by
    have q := congrArg List.length S.pre
    rw [List.length_take, List.length_append] at q
    simp at q
    simp
    omega
  refine ⟨fun A outer s H us ws self rv zs Q E hr e0 rus rws hzs hz1 hz2 hsp => ?_⟩
  have KX : K.In s.heap := e0.mod.kin.keeps fun b o e => (e0.bs b o e).1
  cases rus with
  | cons rself rrods =>
    rename_i uself urods
    have hwl : ws.length = ks.length := by rw [← rws.length]; exact hzs
    have hpl : (pick oi zs).length = oi.length := pick_length fun i hi => by rw [hzs]; exact hoi i hi
    have hpm : (pick mi zs).length = mi.length := pick_length fun i hi => by rw [hzs]; exact hmi i hi
    have hkl : mkn.length = mk.length := by have := congrArg List.length hmk; simpa using this.symm
    refine codeAny_call_function hr.depth (KX _ _ lk) rfl S.co S.gen rfl (PySem.W.codeRec_of KX hcd) ?_
    refine bind_kw (hb uself urods ws hwl) e0 rrods (vals_pick rws mi) (by rw [hpm, hml, hkl]) hnd hz1 (by rw [hpm]; exact hms) fun p d s2 hp hd hne e2 un ho kp => ?_
    have hsp2 := init_sp (n := (self :: rv ++ zs).length) (by rw [hpl, hon]; exact hL) hzs hz1 hsp hp hd hne
    have ek : (mk.map kyV).zip (pick mi zs) = kwD mkn (pick mi zs) := by rw [hmk]; rfl
    rw [ek] at hsp2
    generalize hH2 : upd (upd H p (.tup rv)) d (.dK (kwD mkn (pick mi zs))) = H2 at *
    have hx : ∀ e s', L2.CX P w outer H2 s2 E e s' → L2.CX P w outer H s E e s' := fun e s' => StX.cxUp outer s H s2 H2 E e s' un kp ho
    have rpp : RelV (V.ref p) (Value.ref p) := rfl
    have rdd : RelV (V.ref d) (Value.ref d) := rfl
    have r2 : Vals ((self :: (pick oi zs ++ [V.ref p])) ++ [V.ref d]) ((uself :: (pick oi ws ++ [Value.ref p])) ++ [Value.ref d]) := .cons rself (((vals_pick rws oi).append (.cons rpp .nil)).append (.cons rdd .nil))
    have ez : (s0 :: on).zip (uself :: pick oi ws) ++ [(nr, Value.ref p), (nm, Value.ref d)] = ((s0 :: on) ++ [nr, nm]).zip ((uself :: (pick oi ws ++ [Value.ref p])) ++ [Value.ref d]) := by
      have hpw : (pick oi ws).length = on.length := by rw [pick_length fun i hi => by rw [hwl]; exact hoi i hi]; exact hon
      have e1 : (uself :: (pick oi ws ++ [Value.ref p])) ++ [Value.ref d] = (uself :: pick oi ws) ++ [Value.ref p, Value.ref d] := by simp
      rw [e1, List.zip_append (by simp [hpw])]
      rfl
    rw [ez]
    have hl2 : ((self :: (pick oi zs ++ [V.ref p])) ++ [V.ref d]).length = ((s0 :: on) ++ [nr, nm]).length := by rw [hps, hL]; simp [hpl, hon]
    have lim : s2.heap.NoLimit := e2.mod.nolimit.keeps fun b o e => (e2.bs b o e).1
    refine wpAny_newFunctionEnv S.nocell (fun ⟨n, _⟩ hy => S.par n (List.of_mem_zip hy).1) (fun h₁ hns hsb => ⟨lim.fresh _ hsb, ?_⟩) S.kind
    show codeAny _ _ (.func body (envF (nfC name qual params body scope cc cda) f s2.heap.objs.size)) _ _
    refine PySem.ks_codeAny_funcAt ?_
    have kp2 : ∀ b o, s2.heap.get? b = some o → h₁.get? b = some o := fun b o e => hsb.extBut b o (Nat.ne_of_lt (Heap.lt_size e)) (Heap.get?_push_of_some _ e)
    have I : Inv (ncx (L2.CX P w) P w K mg base N (nfC name qual params body scope cc cda) f A outer s2 H2 E) [] (startF N ((self :: (pick oi zs ++ [V.ref p])) ++ [V.ref d]) [some (.ref Dd)]) H2 { s2 with heap := h₁, toks := s2.toks + (((s0 :: on) ++ [nr, nm]).zip ((uself :: (pick oi ws ++ [Value.ref p])) ++ [Value.ref d])).length } := inv_startN S hr.hd e2 hl2 r2 (cells_cls e2 lc) hns kp2
    have run := body_runA (X := ncx (L2.CX P w) P w K mg base N (nfC name qual params body scope cc cda) f A outer s2 H2 E) (ps := (s0 :: on) ++ [nr, nm]) (ws := [some (.ref Dd)]) (io := [0, L]) hN (by
      intro i hi
      rw [hps]
      simp at hi
      omega) (hbody A outer s2 H2 E (hr.deeper _)) (by rw [hps]; exact hsp2)
    refine PySem.wpAt_mono (run [] _ I) (fun fl s' hs => ?_) fun e s' hs => wpAny_mono hs (fun _ s'' z => hx e s'' z) fun e' s'' z => hx e' s'' z
    have fin : ∀ {σ' : L2.St} {H' : Hp} {v : V} {u : Value}, Inv (ncx (L2.CX P w) P w K mg base N (nfC name qual params body scope cc cda) f A outer s2 H2 E) [] σ' H' s' → RelV v u → Q v H' → CE outer P w H s Q u s' :=
      fun {σ' H' v u} J rv q => ⟨v, H', J.os.trans ho, J.bare, un.trans J.base, J.hok, rv, q⟩
    cases fl with
    | ret u =>
      obtain ⟨v, σ', H', J, rv, q⟩ := hs
      exact fin J rv q
    | next =>
      obtain ⟨σ', H', J, q⟩ := hs
      exact fin (v := V.non) (u := Value.none) J rfl q
    | brk =>
      obtain ⟨_, _, _, q⟩ := hs
      exact False.elim q
    | cont =>
      obtain ⟨_, _, _, q⟩ := hs
      exact False.elim q
end
end Rz
namespace Rz
open PySem PySem.Spec PyProof.Rows L2 NdefX ClX
def dctOf : Sl → Option (List (DK × D))
  | .md kvs => some kvs
  | .fz (.dct kvs) => some kvs
  | _ => none
def tupOf : Sl → Option (List D)
  | .fz (.tup ds) => some ds
  | _ => none
def SupIOk (P : Program) (w : World) (K : PySem.W.Frag) (mg : Str → Option Value) (base : Heap) (G : Nat → Addr) (k : Nat) (Dd : Addr) (cs : List Nat) (m : Str) (ks : Nat → List DK) (f : Nat → Env → Res) : Prop :=
  ∀ c ∈ cs, PySem.W.mroIn K (G c) (.ref Dd) = some true ∧ ∃ fa kn, PySem.W.ks_superIn K (G c) Dd m = some (some (.ref fa)) ∧ PySem.W.isFn K (.ref fa) = true ∧ PySem.W.fnIn K fa = true ∧ (ks c).map kyV = kn.map Sum.inr ∧ FnI P w K mg base G k fa kn (f c)
def supKM (cs : List Nat) (ks : Nat → List DK) (f : Nat → Env → Res) (ir im : Nat) : M Sl := fun st => match selfG st with
  | some (c, g) => match (((st[ir]? : Option Sl).bind tupOf), ((st[im]? : Option Sl).bind dctOf)) with
    | (some ds, some kvs) => if cs.contains c ∧ kvs.map (·.1) = ks c then callM (f c) [0] (pureM (g :: (ds ++ kvs.map (·.2)).map Ag.d)) st else .bad
    | _ => .bad
  | none => .bad
section
variable {K : PySem.W.Frag} {G : Nat → Addr} {w : Wd} {F : Hp}
theorem repK_split : ∀ {kvs : List (DK × D)} {vs : List (Key × V)} {kn : List Str}, RepK K G F vs kvs → (kvs.map (·.1)).map kyV = kn.map Sum.inr → ∃ zs, vs = kwD kn zs ∧ kn.length = zs.length ∧ RepL K G F zs (kvs.map (·.2))
  | [], _, kn, .nil, e => by cases kn with
    | nil => exact ⟨[], rfl, rfl, .nil⟩
    | cons a as => simp at e
  | (k, d) :: kvs, _, kn, .cons r t, e => by cases kn with
    | nil => simp at e
    | cons a as =>
      simp only [List.map_cons, List.cons.injEq] at e
      obtain ⟨zs, e1, e2, e3⟩ := repK_split t e.2
      exact ⟨_ :: zs, by rw [e.1, e1]; rfl, by simp [e2], .cons r e3⟩
theorem agl_d {σ : L2.St} : ∀ {vs : List V} {ds : List D}, RepL K G w.F vs ds → AgL K G σ w vs (ds.map Ag.d)
  | _, _, .nil => .nil
  | _, _, .cons r t => .cons r (agl_d t)
theorem same_seqT {H H' : Hp} (e : Same H H') {a : Addr} {xs : List V} (h : SqT K H a xs) : SqT K H' a xs := by
  rcases h with (h | ⟨o, h⟩) | h
  · exact .inl (.inl (e _ _ h))
  · exact .inl (.inr ⟨o, e _ _ h⟩)
  · exact .inr h
theorem tup_at {st : Env} {σ : L2.St} {i : Nat} {ds : List D} (r : Rel K G w st σ) (h : (st[i]? : Option Sl).bind tupOf = some ds) : ∃ p vs, σ[i]? = some (some (.ref p)) ∧ SqT K w.H p vs ∧ RepL K G w.F vs ds := by
  cases e : (st[i]? : Option Sl) with
  | none => rw [e] at h; cases h
  | some s =>
    rw [e] at h
    have h : tupOf s = some ds := h
    unfold tupOf at h
    split at h
    · cases h
      obtain ⟨y, hy, v, rfl, q⟩ := r.at_ i _ e
      cases q with
      | tup q1 q2 => exact ⟨_, _, hy, same_seqT r.ok.sub q1, q2⟩
    · cases h
theorem dct_at {st : Env} {σ : L2.St} {i : Nat} {ks : List (DK × D)} (r : Rel K G w st σ) (h : (st[i]? : Option Sl).bind dctOf = some ks) : ∃ o vs, σ[i]? = some (some (.ref o)) ∧ Rd w.H o (.dK vs) ∧ RepK K G w.F vs ks := by
  cases e : (st[i]? : Option Sl) with
  | none => rw [e] at h; cases h
  | some s =>
    rw [e] at h
    have h : dctOf s = some ks := h
    unfold dctOf at h
    split at h
    · cases h
      obtain ⟨y, hy, a, vs, rfl, k, hh, q⟩ := r.at_ i _ e
      exact ⟨_, _, hy, .inl hh, q⟩
    · cases h
      obtain ⟨y, hy, v, rfl, q⟩ := r.at_ i _ e
      cases q with
      | dct q1 q2 => exact ⟨_, _, hy, .inr ⟨_, r.ok.sub _ _ q1⟩, q2⟩
    · cases h
end
section
variable {G : Nat → Addr} {X : Cx} {W : WX} {b0 : List Stmt} {pos apos p0 p1 sp kp pr pm : Pos} {f : Nat → Env → Res} {k j ir im : Nat} {cs : List Nat} {m ar xr xm : Str} {ks : Nat → List DK} {Dd : Addr}
theorem run_fnI {pins : List (Addr × Obj)} {σ : L2.St} {H : Hp} {s : Shared} {Q : VK} {us ws : List Value} {self : V} {rv zs : List V} {kn : List Str} {F : Env → Res} {fa : Addr} {E : XK} (FI : FnI X.prog X.w X.K X.mg X.base G j fa kn F) (hr : Room k X.A) (hj : j ≤ k) (hx : PassesAt (L2.CX X.prog X.w) X σ E)
    (I : Inv X pins σ H s) (r : Vals (self :: rv) us) (rz : Vals zs ws) (hl : zs.length = kn.length) (h1 : rv.length ≤ sizeLine) (h2 : zs.length ≤ sizeLine) (h : spM X.K G ((self :: rv ++ zs).length) [0] F (self :: rv ++ zs) H Q E) :
    codeAny (model X.prog X.w) X.A (.call (.ref fa) ⟨us, kn.zip ws⟩) (wants (EP X pins σ Q) X.xe) s := by
  refine codeAny_mono (FI.run X.A X.stack s H us ws self rv zs Q E (hr.mono hj) I.env0 r rz hl h1 h2 h) fun r s' hq => ?_
  cases r with
  | error e => exact hx pins H s e s' I hq
  | ok fl =>
    cases fl with
    | ret u => exact I.after hq
    | next => exact False.elim hq
    | brk => exact False.elim hq
    | cont => exact False.elim hq
theorem snd_superK (tk : Takes X W) (U : SupAt X Dd ar) (F : SupIOk X.prog X.w X.K X.mg X.base G j Dd cs m ks f) (hr : Room k X.A) (hj : j ≤ k) (hN : X.N[0]? = some ar) (hv : Vis X.env.scope ar) (har : (ar == ("__classdict__" : Str)) = false)
    (hNr : X.N[ir]? = some xr) (hvr : Vis X.env.scope xr) (hNm : X.N[im]? = some xm) (hvm : Vis X.env.scope xm) (hm : (m == ("__class__" : Str)) = false := by decide)
    (hd1 : (xr == ("__debug__" : Str)) = false := by decide) (hc1 : (xr == ("__classdict__" : Str)) = false := by decide) (hd2 : (xm == ("__debug__" : Str)) = false := by decide) (hc2 : (xm == ("__classdict__" : Str)) = false := by decide)
    (ht : eval (.Call (.Attribute (.Call (.Name "super" p0) [] [] p1) m apos) [.Starred (.Name xr pr) sp] [⟨none, .Name xm pm, kp⟩] pos) X.env = (do
      let ov ← attributeBase (.Call (.Name "super" p0) [] [] p1) m X.env (eval (.Call (.Name "super" p0) [] [] p1) X.env)
      standAt apos.atName
      let (f, first) ← holding [ov] (do pure (← getAttr ov m true, []))
      let pos' ← pure pos
      callWith pos' f first (backTo pos [(true, eval (.Name xr pr) X.env)]) (backToKw pos [(none, eval (.Name xm pm) X.env)])) := by rfl) :
    SndVA G X W b0 (.Call (.Attribute (.Call (.Name "super" p0) [] [] p1) m apos) [.Starred (.Name xr pr) sp] [⟨none, .Name xm pm, kp⟩] pos) (supKM cs ks f ir im) := by
  intro w st σ Q r p pins s I
  unfold supKM at p
  cases hs : selfG st with
  | none => rw [hs] at p; exact p.elim
  | some cg =>
    obtain ⟨c, g⟩ := cg
    rw [hs] at p
    dsimp only at p
    cases hrd : (st[ir]? : Option Sl).bind tupOf with
    | none => rw [hrd] at p; exact p.elim
    | some ds =>
      cases hmd : (st[im]? : Option Sl).bind dctOf with
      | none => rw [hrd, hmd] at p; exact p.elim
      | some kvs =>
        rw [hrd, hmd] at p
        dsimp only at p
        by_cases hc : cs.contains c ∧ kvs.map (·.1) = ks c
        · rw [if_pos hc] at p
          obtain ⟨a, dx, fs, hσ, hx, hag, hg⟩ := self_at r hs
          obtain ⟨hmro, fa, kn, hsup, hfn, hfi, hkn, FI⟩ := F c (by simpa using hc.1)
          obtain ⟨pa, rv, hσr, hsq, rrv⟩ := tup_at r hrd
          obtain ⟨o, vs, hσm, hrd2, rk⟩ := dct_at r hmd
          obtain ⟨zs, rfl, hlz, rzs⟩ := repK_split rk (by rw [hc.2]; exact hkn)
          obtain ⟨_, _, _, hz1⟩ := I.tuple hsq
          have hz2 : zs.length ≤ sizeLine := by
            have := (dk_rd I.hok hrd2).1
            unfold kwD at this
            simp at this
            omega
          refine super_kw U I hm hN hv har hσ hx hmro hsup (beq_iff_eq.mp hfn) hfi (says_name hNr hvr hσr hd1 hc1) (says_name hNm hvm hσm hd2 hc2) hsq hrd2 hlz (fun q so d s' us ws hd I3 r1 r2 => ?_) ht
          have ok1 := Wd.new_ok r.ok (o := .dK (kwD kn zs)) hd
          have g1 : Grw w (w.new d (.dK (kwD kn zs))) := Wd.new_grw hd
          have r3 := r.grow ok1 g1
          have s3 := g1.step r.ok
          have p : Post X.K G (RV X.K G) w σ W (if agsOk st (g :: (ds ++ kvs.map (·.2)).map Ag.d) [0] = true then (match f c ((g :: (ds ++ kvs.map (·.2)).map Ag.d).map (slOf st)) with
            | .ret v o => if o.length = [0].length then Out.ok v (backs st (g :: (ds ++ kvs.map (·.2)).map Ag.d) [0] o) else .bad
            | .exc x o => if o.length = [0].length then .exc x (backs st (g :: (ds ++ kvs.map (·.2)).map Ag.d) [0] o) else .bad
            | .bad => .bad) else .bad) Q := p
          by_cases hk : agsOk st (g :: (ds ++ kvs.map (·.2)).map Ag.d) [0] = true
          · rw [if_pos hk] at p
            have hal : AgL X.K G σ (w.new d (.dK (kwD kn zs))) (.ref a :: (rv ++ zs)) (g :: (ds ++ kvs.map (·.2)).map Ag.d) := .cons (AgR.mono g1.f hag) (agl_d (RepL.append (rrv.mono g1.f) (rzs.mono g1.f)))
            have sp := sp_of (w0 := w) r3 hal hk ((V.ref a :: (rv ++ zs)).length) rfl (Post.shift ok1 s3 older_V p)
            have z : wpAny (model X.prog X.w) X.A (call (.ref q) us (kn.zip ws)) (EP X ((q, PySem.W.methodObj (.ref fa) (.ref a)) :: (so, PySem.W.ks_superObj Dd a (G c)) :: pins) σ Q) X.xe s' :=
              wpAny_call (PySem.W.method_call (pin_at I3) (run_fnI (us := .ref a :: us) (self := .ref a) (rv := rv) FI hr hj (passAt tk σ) I3 (.cons rfl r1) r2 hlz.symm hz1 hz2 sp))
            exact thn z fun _ _ y => unpinE (unpinE y)
          · rw [if_neg hk] at p; exact p.elim
        · rw [if_neg hc] at p; exact p.elim
end
end Rz
namespace Rz
open PySem PySem.Spec PyProof.Rows L2 NdefX ClX
def initF0 (nl : Nat) (m : M Fl) (args : Env) : Res := match args with
  | sl :: r => match unfz r with
    | some ds => bodyF nl [0] m [sl, .fz (.tup ds)]
    | none => .bad
  | [] => .bad
section
variable {K : PySem.W.Frag} {G : Nat → Addr} {w w' : Wd} {F : Hp}
theorem init_sp0 {nl : Nat} {m : M Fl} {self : V} {rv : List V} {H : Hp} {Q : VK} {E : XK} {n : Nat} {p : Addr} (hz : rv.length ≤ sizeLine)
    (h : spM K G n [0] (initF0 nl m) (self :: rv ++ []) H Q E) (hp : H p = none) : spM K G 2 [0] (bodyF nl [0] m) [self, V.ref p] (upd H p (.tup rv)) Q E := by
  obtain ⟨hlen, w, args, rfl, ok, ar, own, h⟩ := h
  rw [List.append_nil] at ar h
  cases args with
  | nil => exact h.elim
  | cons sl r =>
    unfold initF0 at h
    dsimp only at h
    cases hu : unfz r with
    | none => rw [hu] at h; exact h.elim
    | some ds =>
      rw [hu] at h
      dsimp only at h
      obtain ⟨a1, a2, a3⟩ := ar
      obtain ⟨v0, e0, r0⟩ := a2 0 sl rfl
      have e0 : self = v0 := by simpa using e0
      subst e0
      have rl : RepL K G w.F rv ds := unfz_rep (j := 1) hu (by simpa using a1) fun i s e => a2 (i + 1) s (by simpa using e)
      have ok1 := Wd.frz_ok ok (o := .tup rv) hp
      have g1 := Wd.frz_grw ok (o := .tup rv) hp
      have s2 := g1.step ok
      have rp : Rep K G (w.frz p (.tup rv)).F (.ref p) (.tup ds) := .tup (.inl (.inl upd_same)) (rl.mono g1.f)
      have ar2 : ArgR K G (w.frz p (.tup rv)) [self, V.ref p] [sl, .fz (.tup ds)] := argR_mk (SlotR.grow ok g1 r0) (.cons rp .nil) (a3.step (g1.step ok))
      refine ⟨rfl, w.frz p (.tup rv), _, rfl, ok1, ar2, fun a i e => ?_, ?_⟩
      · by_cases q : a = p
        · have e : (if a = p then Kd.frz else w.k a) = .own i := e
          rw [if_pos q] at e; cases e
        · have e : (if a = p then Kd.frz else w.k a) = .own i := e
          rw [if_neg q] at e
          exact own a i e
      · have ho : ∀ {w' : Wd} {o : Env}, OutR K G w' [self, V.ref p] [0] o → OutR K G w' (self :: rv) [0] o := by
          intro w' o r j i s hj hs
          cases j with
          | succ j => simp at hj
          | zero =>
            simp at hj
            subst hj
            obtain ⟨v, ev, rv'⟩ := r 0 0 s rfl hs
            exact ⟨v, by simpa using ev, rv'⟩
        cases hb : bodyF nl [0] m [sl, .fz (.tup ds)] with
        | bad => rw [hb] at h; exact h.elim
        | ret v o =>
          rw [hb] at h
          exact fun u w' ok' s' q out => h u w' ok' (s2.trans ok1 ok' s') (FrR.back s2.d q) (ho out)
        | exc x o =>
          rw [hb] at h
          exact fun c d' w' ok' s' q out => h c d' w' ok' (s2.trans ok1 ok' s') q (ho out)
end
section
variable {P : Program} {w : World} {K : PySem.W.Frag} {mg : Str → Option Value} {base : Heap} {k : Nat} {f : Addr} {name qual : Str} {params : Arguments} {body : List Stmt} {scope : Scope} {dV kV doc pm cdv ct oc : Value} {an od : Option Addr}
    {osl : Array (Option Value)} {N : List Str} {G : Nat → Addr} {m : M Fl} {s0 nr : Str}
theorem fnI_star (lk : K.lookup f = some ⟨oc, od, .func (PySem.W.fnOf name qual params body scope dV kV doc pm an cdv ct), osl⟩) (hcd : PySem.W.codeIn K cdv qual = true) (S : FnScope N [s0, nr] scope)
    (h0 : ∀ a, bindArgs (PySem.W.fnOf name qual params body scope dV kV doc pm an cdv ct) ⟨[a], []⟩ = (newTuple [] >>= fun t => pure [(s0, a), (nr, t)]))
    (h1 : ∀ a r rs, bindArgs (PySem.W.fnOf name qual params body scope dV kV doc pm an cdv ct) ⟨a :: r :: rs, []⟩ = (newTuple (r :: rs) >>= fun t => pure [(s0, a), (nr, t)]))
    (hbody : ∀ (A : Around) (outer : List PySem.Env) (s : Shared) (H : Hp) (E : XK), Room k (A.deeper (envOfC qual scope s.heap.objs.size f cdv)) → SndB G (cxOf (L2.CX P w) P w K mg base N qual scope f cdv A outer s H E) (WXE E) [0] body m) :
    FnI P w K mg base G (k + 1) f [] (initF0 N.length m) := by
  have hN : 2 ≤ N.length := by have := congrArg List.length S.pre; rw [List.length_take] at this; simp at this; omega
  have F := StX.fn_star (CX := L2.CX P w) (ps := [s0]) (pv := nr) (sp := spM K G 2 [0] (bodyF N.length [0] m)) lk hcd S StX.cxUp
    (StX.bind_star1 (B := fun us => bindArgs (PySem.W.fnOf name qual params body scope dV kV doc pm an cdv ct) ⟨us, []⟩) h0 h1)
    (fun A outer s H vs Q E hr hsp => ⟨_, pss_run, body_run (ps := [s0, nr]) (X := cxOf (L2.CX P w) P w K mg base N qual scope f cdv A outer s H E) hN (by simp) (hbody A outer s H E hr) hsp⟩)
  refine ⟨fun A outer s H us ws self rv zs Q E hr e0 rus rws hzs hz1 hz2 hsp => ?_⟩
  have hzs : zs = [] := List.length_eq_zero_iff.mp (by simpa using hzs)
  subst hzs
  exact F A outer s H us (self :: rv) Q E hr e0 rus ⟨[self], rv, rfl, rfl, hz1, fun p hp => init_sp0 hz1 hsp hp⟩
end
end Rz
namespace Rz
open PySem PySem.Spec PyProof.Rows L2 NdefX ClX
def newOut (c : Nat) (r : Res) (st : Env) : Out Sl := match r with
  | .ret (.fz .non) [.mi c' fs] => if c' = c then .ok (.mi c fs) st else .bad
  | _ => .bad
def Wd.drp (w : Wd) (a : Addr) : Wd := ⟨w.F, fun b => if b = a then .oth else w.k b, w.H⟩
section
variable {K : PySem.W.Frag} {G : Nat → Addr} {w : Wd} {W : WX}
theorem Wd.drp_ok (ok : w.Ok) {a : Addr} (h : w.k a ≠ .frz) (ht : ∀ q, w.k a ≠ .tab q := by intro _ z; simp_all) : (w.drp a).Ok where
  sub := ok.sub
  kf := fun b => by
    show (if b = a then Kd.oth else w.k b) = .frz ↔ _
    by_cases q : b = a
    · subst q
      rw [if_pos rfl]
      constructor
      · intro z; cases z
      · rintro ⟨o', e⟩; exact absurd ((ok.kf b).mpr ⟨o', e⟩) h
    · rw [if_neg q]; exact ok.kf b
  ko := fun b j e => by
    have e : (if b = a then Kd.oth else w.k b) = .own j := e
    by_cases q : b = a
    · rw [if_pos q] at e; cases e
    · rw [if_neg q] at e; exact ok.ko b j e
  kt := fun b j e => by
    have e : (if b = a then Kd.oth else w.k b) = .tab j := e
    by_cases q : b = a
    · rw [if_pos q] at e; cases e
    · rw [if_neg q] at e; exact ok.kt b j e
  kd := fun b ps e => by
    obtain ⟨q0, e0⟩ := ok.kd b ps e
    refine ⟨q0, ?_⟩
    show (if b = a then Kd.oth else w.k b) = _
    by_cases q : b = a
    · subst q; exact absurd e0 (ht q0)
    · rw [if_neg q]; exact e0
  kc := fun b c n e => by
    have e0 := ok.kc b c n e
    show (if b = a then Kd.oth else w.k b) = _
    by_cases q : b = a
    · subst q; exact absurd e0 h
    · rw [if_neg q]; exact e0
theorem SlotR.lab {w' : Wd} (hF : w'.F = w.F) (hH : w'.H = w.H) {i : Nat} (hk : ∀ a, w.k a = .own i → w'.k a = .own i) : ∀ {x : Option V} {s : Sl}, SlotR K G w i x s → SlotR K G w' i x s
  | _, .un, _ => trivial
  | _, .fz d, ⟨v, e, r⟩ => ⟨v, e, by rw [hF]; exact r⟩
  | _, .ml xs, ⟨a, vs, e, k, h, r⟩ => ⟨a, vs, e, hk a k, by rw [hH]; exact h, by rw [hF]; exact r⟩
  | _, .md xs, ⟨a, vs, e, k, h, r⟩ => ⟨a, vs, e, hk a k, by rw [hH]; exact h, by rw [hF]; exact r⟩
  | _, .mi c xs, ⟨a, dx, vs, e, k, h, r⟩ => ⟨a, dx, vs, e, hk a k, by rw [hH]; exact h, by rw [hF]; exact r⟩
theorem make_sp {f : Env → Res} {st : Env} {σ : L2.St} {vs : List V} {ds : List D} {c : Nat} {x dx : Addr} {Q : VK} (r : Rel K G w st σ) (hv : RepL K G w.F vs ds) (hx : w.H x = none) (hd : w.H dx = none) (hne : dx ≠ x)
    (p : Post K G (RV K G) w σ W (newOut c (f (.mi c [] :: ds.map .fz)) st) Q) :
    spM K G ((V.ref x :: vs).length) [0] f (.ref x :: vs) (upd (upd w.H dx (.own x)) x (.ins (G c) dx [])) (fun v H2 => v = .non ∧ Q (.ref x) H2) (WE (fun c d _ H => W c d σ H) (σ ++ [some (.ref x)])) := by
  have ok1 := Wd.new_ok r.ok (o := .own x) hd
  have g1 : Grw w (w.new dx (.own x)) := Wd.new_grw hd
  have hx1 : (w.new dx (.own x)).H x = none := by
    show upd w.H dx _ x = none
    rw [upd_ne (Ne.symm hne)]; exact hx
  have ok2 := Wd.new_ok ok1 (o := .ins (G c) dx []) hx1
  have g2 : Grw (w.new dx (.own x)) ((w.new dx (.own x)).new x (.ins (G c) dx [])) := Wd.new_grw hx1
  have hxs : ((w.new dx (.own x)).new x (.ins (G c) dx [])).H x = some (.ins (G c) dx []) := upd_same
  have kx : (w.new dx (.own x)).k x = .oth := ok1.k_oth hx1
  have ok3 := Wd.own_ok ok2 (i := st.length) hxs (by show (w.new dx (.own x)).k x ≠ .frz; rw [kx]; intro z; cases z)
  have s3 : Step w (((w.new dx (.own x)).new x (.ins (G c) dx [])).own x st.length) := (g1.step r.ok).trans ok1 ok3 (own_step ok1 hx1)
  have rg := (r.grow ok1 g1).grow ok2 g2
  have hF3 : (((w.new dx (.own x)).new x (.ins (G c) dx [])).own x st.length).F = w.F := rfl
  have hH3 : (((w.new dx (.own x)).new x (.ins (G c) dx [])).own x st.length).H = upd (upd w.H dx (.own x)) x (.ins (G c) dx []) := rfl
  have hk3 : (((w.new dx (.own x)).new x (.ins (G c) dx [])).own x st.length).k x = .own st.length := by show (if x = x then _ else _) = _; rw [if_pos rfl]
  have r3 : Rel K G (((w.new dx (.own x)).new x (.ins (G c) dx [])).own x st.length) (st ++ [.mi c []]) (σ ++ [some (.ref x)]) := by
    refine ⟨ok3, by simp [r.len], fun i s e => ?_, r.tk.step s3⟩
    by_cases hi : i < st.length
    · rw [List.getElem?_append_left hi] at e
      obtain ⟨y, hy, q⟩ := rg.at_ i s e
      refine ⟨y, by rw [List.getElem?_append_left (by rw [r.len]; exact hi)]; exact hy, SlotR.lab (w := (w.new dx (.own x)).new x (.ins (G c) dx [])) (w' := ((w.new dx (.own x)).new x (.ins (G c) dx [])).own x st.length) rfl rfl (fun a ka => ?_) q⟩
      show (if a = x then _ else _) = _
      have : a ≠ x := by rintro rfl; have ka : (w.new dx (.own a)).k a = .own i := ka; rw [kx] at ka; cases ka
      rw [if_neg this]; exact ka
    · have hi' : i = st.length := by
        have := (List.getElem?_eq_some_iff.mp e).1
        simp at this
        omega
      subst hi'
      rw [List.getElem?_append_right (Nat.le_refl _)] at e
      simp at e
      subst e
      exact ⟨some (.ref x), by rw [← r.len, List.getElem?_append_right (Nat.le_refl _)]; simp, x, dx, [], rfl, hk3, by rw [hH3]; exact upd_same, .nil⟩
  generalize hw3 : ((w.new dx (.own x)).new x (.ins (G c) dx [])).own x st.length = w3 at *
  have hal : AgL K G (σ ++ [some (.ref x)]) w3 (.ref x :: vs) (.io st.length :: ds.map Ag.d) := .cons (by show (σ ++ [some (.ref x)])[st.length]? = _; rw [← r.len, List.getElem?_append_right (Nat.le_refl _)]; simp) (agl_d (by rw [hF3]; exact hv))
  have hslx : (st ++ [Sl.mi c []])[st.length]? = some (.mi c []) := by rw [List.getElem?_append_right (Nat.le_refl _)]; simp
  have hk : agsOk (st ++ [.mi c []]) (.io st.length :: ds.map Ag.d) [0] = true := by
    unfold agsOk
    rw [List.all_eq_true]
    intro i hi
    cases i with
    | zero =>
      show (decide (rho (.io st.length :: ds.map Ag.d) st.length = some 0) && ownd (((st ++ [Sl.mi c []])[st.length]?).getD .un) && [0].contains 0) = true
      rw [hslx]
      have : rho (.io st.length :: ds.map Ag.d) st.length = some 0 := by
        unfold rho
        rw [List.findIdx?_cons]
        have : isIO st.length (.io st.length) = true := by unfold isIO; simp
        rw [this]; rfl
      rw [this]
      rfl
    | succ i =>
      rw [List.getElem?_cons_succ, List.getElem?_map]
      cases ds[i]? <;> rfl
  have hsl : (Ag.io st.length :: ds.map Ag.d).map (slOf (st ++ [.mi c []])) = .mi c [] :: ds.map .fz := by
    rw [List.map_cons, List.map_map]
    have : slOf (st ++ [.mi c []]) (.io st.length) = .mi c [] := by show ((st ++ [Sl.mi c []])[st.length]?).getD .un = _; rw [hslx]; rfl
    rw [this]
    rfl
  rw [← hH3]
  refine sp_of (w0 := w3) (io := [0]) r3 hal hk _ rfl ?_
  rw [hsl]
  unfold newOut at p
  split at p
  · rename_i c' fs ef
    rw [ef]
    by_cases hc : c' = c
    · subst hc
      rw [if_pos rfl] at p
      show Post K G (RV K G) w3 _ _ (Out.ok (.fz .non) ((st ++ [Sl.mi c' []]).set st.length (.mi c' fs))) _
      intro u w' r' s' q
      have q : Rep K G w'.F u .non := q
      cases q
      refine ⟨rfl, ?_⟩
      obtain ⟨y, hy, a, dx', vs', ey, ka, ha, ra⟩ := r'.at_ st.length (.mi c' fs) (by simp)
      have ex : y = some (.ref x) := by
        rw [← r.len, List.getElem?_append_right (Nat.le_refl _)] at hy
        simpa using hy.symm
      rw [ex] at ey
      cases ey
      have okd := Wd.drp_ok r'.ok (a := x) (by rw [ka]; intro z; cases z)
      refine p (.ref x) (w'.drp x) ⟨okd, r.len, fun i s e => ?_, r'.tk.upd (a := x) (by rw [ka]; intro q z; cases z) rfl⟩ ⟨s3.f.trans s'.f, fun b o e k => ?_, fun b e => s3.d b (s'.d b e), fun b i => ?_, fun b i e => ?_⟩ ⟨x, dx', vs', rfl, hx, ?_, ha, ra⟩
      · have hi : i < st.length := (List.getElem?_eq_some_iff.mp e).1
        obtain ⟨y, hy, q⟩ := r'.at_ i s (by rw [List.getElem?_set_ne (by omega), List.getElem?_append_left hi]; exact e)
        refine ⟨y, by rw [List.getElem?_append_left (by rw [r.len]; exact hi)] at hy; exact hy, SlotR.lab (w := w') (w' := w'.drp x) rfl rfl (fun b kb => ?_) q⟩
        show (if b = x then _ else _) = _
        have : b ≠ x := by rintro rfl; rw [ka] at kb; cases kb; omega
        rw [if_neg this]; exact kb
      · obtain ⟨e1, k1⟩ := s3.o b o e k
        obtain ⟨e2, k2⟩ := s'.o b o e1 k1
        have : b ≠ x := ne_of_none e hx
        exact ⟨e2, by show (if b = x then _ else _) = _; rw [if_neg this]; exact k2⟩
      · have s4 := s3.trans ok3 r'.ok s'
        refine (s4.t b i).trans ?_
        show _ ↔ (if b = x then _ else _) = _
        by_cases q : b = x
        · subst q; rw [if_pos rfl, ka]; exact ⟨fun z => (by cases z), fun z => (by cases z)⟩
        · rw [if_neg q]
      · have s4 := s3.trans ok3 r'.ok s'
        obtain ⟨o, eo⟩ := r.ok.ko b i e
        have : b ≠ x := ne_of_none eo hx
        rcases s4.w b i e with h | h
        · exact .inl (by show (if b = x then _ else _) = _; rw [if_neg this]; exact h)
        · exact .inr (by show (if b = x then _ else _) = _; rw [if_neg this]; exact h)
      · show (if x = x then Kd.oth else _) = _
        rw [if_pos rfl]
    · rw [if_neg hc] at p; exact p.elim
  · exact p.elim
end
end Rz
namespace Rz
open PySem PySem.Spec PyProof.Rows L2 NdefX ClX
section
variable {M : Model} {A : Around} {E : Value → Shared → Prop} {s : Shared}
theorem wp_star_named {f : Value} {x : Sem Value} {pos : Pos} {kws : List (Option Str × Sem Value)} {Q : Args → Shared → Prop} (hall : kws.all (·.1.isSome) = true)
    (h : wpAny M A x (fun v s1 => wpAny M A (evalAll (kws.map (·.2))) (fun ws s2 => PySem.W.StarOf M A E v (fun vs s3 => Q ⟨vs, (kws.filterMap (·.1)).zip ws⟩ s3) s2) E s1) E s) :
    wpAny M A (evalArgs f true [(true, (do let v ← x; standAt pos; pure v))] kws) Q E s := by
  unfold evalArgs
  refine wpAny_bind (wpAny_bind (wpAny_mono h (fun v s₁ h₁ => wpAny_bind (wpAny_standAt (wpAny_pure (wpAny_bind (wpAny_pure ?_))))) fun _ _ x => x))
  refine wpAny_holding ?_
  dsimp only
  rw [if_pos hall]
  refine wpAny_bind (wpAny_mono h₁ (fun ws s2 h2 => ?_) fun _ _ x => x)
  unfold PySem.W.StarOf at h2
  refine wpAny_bind (wpAny_bind (wpAny_mono h2 (fun b s5 h5 => ?_) fun _ _ x => x))
  obtain ⟨rfl, h5⟩ := h5
  rw [if_neg (by simp)]
  exact wpAny_holding (wpAny_mono h5 (fun vs s6 h6 => wpAny_pure h6) fun _ _ x => x)
end
def RunK (X : Cx) (kws : List Keyword) (σ : L2.St) (H : Hp) (Q : List V → Hp → Prop) : Prop := ∀ pos pins s E, Inv X pins σ H s → E = X.xe → wpAny (model X.prog X.w) X.A (evalAll ((backToKw pos (keywordEach kws X.env)).map (·.2))) (fun us s' => ∃ vs H', Inv X pins σ H' s' ∧ Vals vs us ∧ vs.length = kws.length ∧ Q vs H') E s
def SndK (G : Nat → Addr) (X : Cx) (W : WX) (kws : List Keyword) (m : M (List D)) : Prop := Snd X.K G (RunK X kws) (fun _ w' us ds => RepL X.K G w'.F us ds) W m
def consK (m : M D) (ml : M (List D)) : M (List D) := bindM m fun d => bindM ml fun ds => pureM (d :: ds)
section
variable {G : Nat → Addr} {X : Cx} {W : WX} {e : Expr} {kws : List Keyword} {n : Option Str} {kp : Pos}
theorem sk_nil : SndK G X W [] (pureM []) := fun w st σ Q r p pos pins s E I eE => wpAny_evalAll_nil ⟨[], w.H, I, .nil, rfl, p [] w r (Step.refl w) .nil⟩
theorem sk_cons {m : M D} {ml : M (List D)} (h : SndD G X W e m) (hl : SndK G X W kws ml) : SndK G X W (⟨n, e, kp⟩ :: kws) (consK m ml) := by
  intro w st σ Q r p pos pins s E I eE
  subst eE
  have h1 : RunE X e σ w.H fun u H1 => RunK X kws σ H1 fun us H2 => Q (u :: us) H2 := by
    refine h w st σ _ r ?_
    unfold consK bindM at p
    cases e1 : m st with
    | bad => rw [e1] at p; exact p
    | exc x st1 => rw [e1] at p; exact p
    | ok d st1 =>
      rw [e1] at p
      intro u w1 r1 s1 q1
      refine hl w1 st1 σ _ r1 ?_
      have p : Post X.K G (fun _ w' us ds => RepL X.K G w'.F us ds) w σ W ((ml st1).bind fun ds => pureM (d :: ds)) Q := p
      cases e2 : ml st1 with
      | bad => rw [e2] at p; exact p
      | exc x st2 => rw [e2] at p; exact fun c d' w2 r2 s2 q2 => p c d' w2 r2 (s1.trans r1.ok r2.ok s2) q2
      | ok ds st2 =>
        rw [e2] at p
        exact fun us w2 r2 s2 q2 => p (u :: us) w2 r2 (s1.trans r1.ok r2.ok s2) (.cons (q1.mono s2.f) q2)
  show wpAny _ _ (evalAll ((do let v ← eval e X.env; standAt pos; pure v) :: (backToKw pos (keywordEach kws X.env)).map (·.2))) _ _ s
  refine wpAny_evalAll_cons (wpAny_bind (thn (h1 pins s I) fun u s1 ⟨x, H1, I1, r1, q1⟩ => wpAny_bind (wpAny_standAt (wpAny_pure ?_))))
  exact thn (q1 pos pins s1 _ I1 rfl) fun us s2 ⟨vs, H2, I2, r2, l2, q2⟩ => ⟨x :: vs, H2, I2, .cons r1 r2, by rw [List.length_cons, l2]; rfl, q2⟩
end
end Rz
namespace Rz
open PySem PySem.Spec PyProof.Rows L2 NdefX ClX
def seqOf : Sl → Option (List D)
  | .ml xs => some xs
  | .fz (.lst xs) => some xs
  | .fz (.tup xs) => some xs
  | _ => none
def starM (c i : Nat) (f : Env → Res) (mz : M (List D)) : M Sl := fun st0 => match (st0[i]? : Option Sl).bind seqOf with
  | some _ => bindM mz (fun es st => match (st[i]? : Option Sl).bind seqOf with
    | some ds => newOut c (f (.mi c [] :: (ds ++ es).map .fz)) st
    | none => .bad) st0
  | none => .bad
section
variable {K : PySem.W.Frag} {G : Nat → Addr} {w : Wd}
theorem seq_at {st : Env} {σ : L2.St} {i : Nat} {ds : List D} (r : Rel K G w st σ) (h : (st[i]? : Option Sl).bind seqOf = some ds) : ∃ p vs, σ[i]? = some (some (.ref p)) ∧ (SqT K w.H p vs ∨ SqL K w.H p vs) ∧ RepL K G w.F vs ds := by
  cases e : (st[i]? : Option Sl) with
  | none => rw [e] at h; cases h
  | some s =>
    rw [e] at h
    have h : seqOf s = some ds := h
    unfold seqOf at h
    split at h
    · cases h
      obtain ⟨y, hy, a, vs, rfl, k, hh, q⟩ := r.at_ i _ e
      exact ⟨_, _, hy, .inr (SqL.of hh), q⟩
    · cases h
      obtain ⟨y, hy, v, rfl, q⟩ := r.at_ i _ e
      cases q with
      | lst q1 q2 => exact ⟨_, _, hy, .inr (SqL.of (r.ok.sub _ _ q1)), q2⟩
    · cases h
      obtain ⟨y, hy, v, rfl, q⟩ := r.at_ i _ e
      cases q with
      | tup q1 q2 => exact ⟨_, _, hy, .inl (same_seqT r.ok.sub q1), q2⟩
    · cases h
end
section
variable {G : Nat → Addr} {X : Cx} {W : WX} {kws : List Keyword} {f : Env → Res} {c i j k : Nat} {fa : Addr} {ks : List Str} {mz : M (List D)} {x xr : Str} {p pr sp pos : Pos}
theorem run_makeI {pins : List (Addr × Obj)} {σ : L2.St} {w : Wd} {st : Env} {s : Shared} {Q : VK} {us ws : List Value} {rv zs : List V} {ds es : List D} (tk : Takes X W) (M : Mk X.K (G c) fa) (FI : FnI X.prog X.w X.K X.mg X.base G j fa ks f) (hr : Room (k + 1) X.A) (hj : j ≤ k)
    (r : Rel X.K G w st σ) (I : Inv X pins σ w.H s) (ru : Vals rv us) (rz : Vals zs ws) (rr : RepL X.K G w.F rv ds) (rs : RepL X.K G w.F zs es) (hl : zs.length = ks.length) (h1 : rv.length ≤ sizeLine) (h2 : zs.length ≤ sizeLine)
    (p : Post X.K G (RV X.K G) w σ W (newOut c (f (.mi c [] :: (ds ++ es).map .fz)) st) Q) : wpAny (model X.prog X.w) X.A (call (.ref (G c)) us (ks.zip ws)) (EP X pins σ Q) X.xe s := by
  have hx := I.hok.fresh (Nat.le_succ s.heap.objs.size)
  have hd := I.hok.fresh (Nat.le_refl s.heap.objs.size)
  have sp := make_sp (x := s.heap.objs.size + 1) (dx := s.heap.objs.size) r (RepL.append rr rs) hx hd (Nat.ne_of_lt (Nat.lt_succ_self _)) p
  have I2 := Inv.made (C := G c) I
  have hpass := passAt tk σ
  refine wpAny_call (make_map (f := fa) I.kIn M.makes M.init (beq_iff_eq.mp M.fn) (codeAny_mono (FI.run _ X.stack _ _ (Value.ref (s.heap.objs.size + 1) :: us) ws (.ref (s.heap.objs.size + 1)) rv zs _ (WE W σ) ((hr.make (G c) us (ks.zip ws)).mono hj)
    (I2.env0.make (G c) us (ks.zip ws)) (.cons rfl ru) rz hl h1 h2 sp) fun r s' hq' => ?_))
  cases r with
  | error e => exact hpass pins _ _ e s' I2 hq'
  | ok fl =>
    cases fl with
    | ret u =>
      obtain ⟨v, H', I3, rv, ev, q3⟩ := I2.after hq'
      subst ev
      exact ⟨rv, ⟨V.ref (s.heap.objs.size + 1), H', I3, rfl, q3⟩⟩
    | next => exact False.elim hq'
    | brk => exact False.elim hq'
    | cont => exact False.elim hq'
theorem snd_makeStar (tk : Takes X W) (M : Mk X.K (G c) fa) (FI : FnI X.prog X.w X.K X.mg X.base G j fa ks f) (hr : Room (k + 1) X.A) (hj : j ≤ k) (hg : Gl X x) (hm : X.mg x = some (.ref (G c))) (hz : SndK G X W kws mz)
    (hms : ks.length ≤ sizeLine) (hall : (backToKw pos (keywordEach kws X.env)).all (·.1.isSome) = true := by rfl) (hkn : (backToKw pos (keywordEach kws X.env)).filterMap (·.1) = ks := by rfl) (hkl : kws.length = ks.length := by rfl)
    (hN : X.N[i]? = some xr := by rfl) (hv : Vis X.env.scope xr := by first | exact Or.inl rfl | exact Or.inr (Or.inl rfl) | exact Or.inr (Or.inr rfl)) (hdb : (x == ("__debug__" : Str)) = false := by decide)
    (hd1 : (xr == ("__debug__" : Str)) = false := by decide) (hc1 : (xr == ("__classdict__" : Str)) = false := by decide)
    (hst : starEach [.Starred (.Name xr pr) sp] X.env = [(true, eval (.Name xr pr) X.env)] := by rfl) :
    SndV G X W (.Call (.Name x p) [.Starred (.Name xr pr) sp] kws pos) (starM c i f mz) := by
  intro w st σ Q r pp; refine ⟨fun pins s I => ?_⟩
  unfold starM at pp
  cases h0 : (st[i]? : Option Sl).bind seqOf with
  | none => rw [h0] at pp; exact pp.elim
  | some ds0 =>
    rw [h0] at pp
    dsimp only at pp
    obtain ⟨pa, vs0, hσ, _, _⟩ := seq_at r h0
    refine wpAny_Call_Name_kw (ld_glob I hg hm ?_ hdb)
    rw [hst]
    refine kw_call (P := X.K.In) rfl (PySem.W.keeps_K M.kp) (wp_star_named hall (says_name hN hv hσ hd1 hc1 pins s w.H _ _ I fun u hu => ?_))
    obtain rfl : u = Value.ref pa := hu
    have hz1 : RunK X kws σ w.H fun zs H1 => zs.length = kws.length → ∃ vs, (SqT X.K H1 pa vs ∨ SqL X.K H1 pa vs) ∧ ∀ pins s us ws, Inv X pins σ H1 s → Vals vs us → Vals zs ws → wpAny (model X.prog X.w) X.A (call (.ref (G c)) us (ks.zip ws)) (EP X pins σ Q) X.xe s := by
      refine hz w st σ _ r ?_
      unfold bindM at pp
      cases e1 : mz st with
      | bad => rw [e1] at pp; exact pp
      | exc y st1 => rw [e1] at pp; exact pp
      | ok es st1 =>
        rw [e1] at pp
        intro zs w1 r1 s1 q1 hzl
        have pp : Post X.K G (RV X.K G) w σ W (match (st1[i]? : Option Sl).bind seqOf with
          | some ds => newOut c (f (.mi c [] :: (ds ++ es).map .fz)) st1
          | none => .bad) Q := pp
        cases h1 : (st1[i]? : Option Sl).bind seqOf with
        | none => rw [h1] at pp; exact pp.elim
        | some ds =>
          rw [h1] at pp
          obtain ⟨pb, vs, hσ1, hsq, rvs⟩ := seq_at r1 h1
          rw [hσ] at hσ1
          cases hσ1
          refine ⟨vs, hsq, fun pins s us ws I1 ru rz => ?_⟩
          have hvl : vs.length ≤ sizeLine := by
            rcases hsq with h | h
            · obtain ⟨_, _, _, z⟩ := I1.tuple h; exact z
            · obtain ⟨_, _, _, z⟩ := I1.list h; exact z
          exact run_makeI tk M FI hr hj r1 I1 ru rz rvs q1 (hzl.trans hkl) hvl (by rw [hzl, hkl]; exact hms) (Post.shift r1.ok s1 older_V pp)
    refine thn (hz1 pos pins s _ I rfl) fun ws s2 ⟨zs, H2, I2, rz, lz, q2⟩ => ?_
    obtain ⟨vs, hsq, q3⟩ := q2 lz
    refine StX.star_any I2 hsq fun us s3 I3 ru => ⟨I3.kIn, ?_⟩
    rw [hkn]
    exact q3 pins s3 us ws I3 ru rz
end
end Rz
namespace Rz
open PySem PySem.Spec PyProof.Rows L2 NdefX ClX
def makeM (c : Nat) (f : Env → Res) (me mz : M (List D)) : M Sl := bindM me fun ds => bindM mz fun es => fun st => newOut c (f (.mi c [] :: (ds ++ es).map .fz)) st
section
variable {G : Nat → Addr} {X : Cx} {W : WX} {e : Expr} {es : List Expr} {kws : List Keyword} {f : Env → Res} {c j k : Nat} {fa : Addr} {ks : List Str} {me mz : M (List D)} {x : Str} {p pos : Pos}
theorem snd_make (tk : Takes X W) (M : Mk X.K (G c) fa) (FI : FnI X.prog X.w X.K X.mg X.base G j fa ks f) (hr : Room (k + 1) X.A) (hj : j ≤ k) (hg : Gl X x) (hm : X.mg x = some (.ref (G c))) (ha : PA X (e :: es) (RunL X (e :: es))) (he : SndF G X W (e :: es) me) (hz : SndK G X W kws mz)
    (hes : (e :: es).length ≤ sizeLine) (hms : ks.length ≤ sizeLine) (hall : (backToKw pos (keywordEach kws X.env)).all (·.1.isSome) = true := by rfl) (hkn : (backToKw pos (keywordEach kws X.env)).filterMap (·.1) = ks := by rfl) (hkl : kws.length = ks.length := by rfl)
    (hdb : (x == ("__debug__" : Str)) = false := by decide) (hst : starEach (e :: es) X.env = (false, eval e X.env) :: starEach es X.env := by rfl)
    (hpl : ((backTo pos (starEach (e :: es) X.env)).any (·.1) || (backToKw pos (keywordEach kws X.env)).any (·.1.isNone)) = false := by rfl) : SndV G X W (.Call (.Name x p) (e :: es) kws pos) (makeM c f me mz) := by
  intro w st σ Q r pp; refine ⟨fun pins s I => ?_⟩
  refine wpAny_Call_Name_kw (ld_glob I hg hm ?_ hdb)
  have h1 : RunL X (e :: es) σ w.H fun rv H1 => rv.length = (e :: es).length → RunK X kws σ H1 fun zs H2 => zs.length = kws.length → ∀ pins s us ws, Inv X pins σ H2 s → Vals rv us → Vals zs ws → wpAny (model X.prog X.w) X.A (call (.ref (G c)) us (ks.zip ws)) (EP X pins σ Q) X.xe s := by
    refine he w st σ _ r ?_
    unfold makeM bindM at pp
    cases e1 : me st with
    | bad => rw [e1] at pp; exact pp
    | exc y st1 => rw [e1] at pp; exact pp
    | ok ds st1 =>
      rw [e1] at pp
      intro rv w1 r1 s1 q1 hrl
      refine hz w1 st1 σ _ r1 ?_
      have pp : Post X.K G (RV X.K G) w σ W ((mz st1).bind fun es => fun st => newOut c (f (.mi c [] :: (ds ++ es).map .fz)) st) Q := pp
      cases e2 : mz st1 with
      | bad => rw [e2] at pp; exact pp
      | exc y st2 => rw [e2] at pp; exact fun c' d' w2 r2 s2 q2 => pp c' d' w2 r2 (s1.trans r1.ok r2.ok s2) q2
      | ok zd st2 =>
        rw [e2] at pp
        intro zs w2 r2 s2 q2 hzl pins s us ws I2 ru rz
        exact run_makeI tk M FI hr hj r2 I2 ru rz (q1.mono s2.f) q2 (hzl.trans hkl) (by rw [hrl]; exact hes) (by rw [hzl, hkl]; exact hms) (Post.shift r2.ok (s1.trans r1.ok r2.ok s2) older_V pp)
  have h2 := RunL.len h1
  refine PySem.W.callWith_KW (h₀ := X.base) I.ok.mod.kin M.kp hall (thn (ha.run pos pins s σ w.H _ I h2) fun us s1 ⟨rv, H1, I1, ru, q⟩ => ?_) hpl hst
  refine thn (q pos pins s1 _ I1 rfl) fun ws s2 ⟨zs, H2, I2, rz, lz, q2⟩ => ⟨I2.kIn, ?_⟩
  rw [hkn]
  exact q2 lz pins s2 us ws I2 ru rz
end
end Rz
namespace Rz
open PySem PySem.Spec PyProof.Rows L2
def dcL (vs : List Nat) (tgt : D → M Unit) (mt : M Bool) (mk mv : M D) : List D → List (DK × D) → M (List (DK × D))
  | [], acc => pureM acc
  | d :: ds, acc => bindM (nox (tgt d)) fun _ => bindM (nox mt) fun b => if b = true then bindM (nox mk) fun kd => bindM (nox mv) fun v => fun st => match keyD kd with
    | some k => if acc.length < 16777216 then dcL vs tgt mt mk mv ds (putD acc k v) (wipeE st vs) else .bad
    | none => .bad
    else fun st => dcL vs tgt mt mk mv ds acc (wipeE st vs)
def dcM (vs : List Nat) (mi : M (List D)) (tgt : D → M Unit) (mt : M Bool) (mk mv : M D) : M Sl := bindM mi fun ds => fun st =>
  if calmE st vs = true then (dcL vs tgt mt mk mv ds [] (wipeE st vs)).bind fun acc st' => .ok (.md acc) (backE st' st vs) else .bad
section
variable {J : It} {n : Nat} {G : Hp → Prop} {Y : Nat → Hp → V → Hp → Prop}
theorem dc_it (w : Walk J n G Y) {g : TG} {tt : TT} {tk tv : TE} {vs : List Nat} {σ : L2.St} {H1 : Hp} {D : Addr} {Qd : Hp → Prop} (Pv : Nat → Hp → Prop) (h0 : Pv 0 (upd H1 D (.dK []))) (hG : ∀ i H, i ≤ n → Pv i H → G H)
    (hs : ∀ i x H H', i < n → Pv i H → Y i H x H' → g x (L2.wipe σ vs) H' fun σ2 H2 => L2.wipe σ2 vs = L2.wipe σ vs ∧ tt σ2 H2 fun b H3 =>
      if b = true then tk σ2 H3 fun y H4 => tv σ2 H4 fun z H5 => ∃ kvs k, y = kV k ∧ H5 D = some (.dK kvs) ∧ kvs.length < sizeLine ∧ Pv (i + 1) (upd H5 D (.dK (putK kvs k z))) else Pv (i + 1) H3) (hd : ∀ H, Pv n H → Qd H) :
    ∃ W : Nat → Nat → Hp → Prop, (∃ m, W 0 m (upd H1 D (.dK []))) ∧ ∀ i m H, W i m H →
      (J.stop i H ∧ Qd H) ∨ (J.go i H ∧ ∃ Nx : Hp → Prop, (∀ H', Nx H' → ∃ m', m' < m ∧ W (i + 1) m' H') ∧ ∀ x H', J.yld i H x H' → g x (L2.wipe σ vs) H' fun σ2 H2 => L2.wipe σ2 vs = L2.wipe σ vs ∧ tt σ2 H2 fun b H3 =>
        if b = true then tk σ2 H3 fun y H4 => tv σ2 H4 fun z H5 => ∃ kvs k, y = kV k ∧ H5 D = some (.dK kvs) ∧ kvs.length < sizeLine ∧ Nx (upd H5 D (.dK (putK kvs k z))) else Nx H3) := by
  refine ⟨fun i m H => m = n - i ∧ i ≤ n ∧ Pv i H, ⟨n, by simp, Nat.zero_le _, h0⟩, ?_⟩
  rintro i m H ⟨rfl, hi, p⟩
  have q := hG i H hi p
  by_cases hlt : i < n
  · refine .inr ⟨w.goes i H hlt q, Pv (i + 1), fun H' p' => ⟨n - (i + 1), by omega, rfl, hlt, p'⟩, fun x H' y => hs i x H H' hlt p (w.yields i H x H' hlt q y)⟩
  · have e : i = n := by omega
    subst e
    exact .inl ⟨w.stops H q, hd H p⟩
end
theorem dc_ok {G : Nat → Addr} {X : Cx} {W : WX} {tg iter kx vx : Expr} {ifs : List Expr} {scope : Scope} {vs pr : List Nat} {mi : M (List D)} {g : D → M Unit} {mt : M Bool} {mk mv : M D}
    (hpr : ∀ j, j < X.N.length → j ∉ vs → j ∈ pr) (hi : SndI G X W tg iter mi) (hg : ∀ X', Blk X scope X' → SndG G X' W0 pr tg g) (ht : ∀ X', Blk X scope X' → SndCs G X' W0 ifs mt) (hk : ∀ X', Blk X scope X' → SndD G X' W0 kx mk) (he : ∀ X', Blk X scope X' → SndD G X' W0 vx mv)
    {w : Wd} {st : Env} {σ : L2.St} {Q : VK} (hlen : σ.length = X.N.length) (r : Rel X.K G w st σ) (p : Post X.K G (RV X.K G) w σ W (dcM vs mi g mt mk mv st) Q) :
    tDc (RunI X tg iter) (fun v σ H Q => ∀ X', Blk X scope X' → RunG X' tg v σ H Q) (fun σ H Q => ∀ X', Blk X scope X' → RunCs X' ifs σ H Q) (fun σ H Q => ∀ X', Blk X scope X' → RunE X' kx σ H Q) (fun σ H Q => ∀ X', Blk X scope X' → RunE X' vx σ H Q) vs σ w.H Q := by
  refine Snd.bind (run1 := RunI X tg iter) hi older_V r p fun ds J w1 st1 r1 s1 q1 p1 => ?_
  obtain ⟨Gp, Y, hW, hG, hY⟩ := q1
  intro Da hD
  by_cases hc : calmE st1 vs = true
  · have p2 : Post X.K G (RV X.K G) w1 σ W ((dcL vs g mt mk mv ds [] (wipeE st1 vs)).bind fun acc st' => .ok (.md acc) (backE st' st1 vs)) Q := by
      have z : Post X.K G (RV X.K G) w1 σ W (if calmE st1 vs = true then (dcL vs g mt mk mv ds [] (wipeE st1 vs)).bind fun acc st' => .ok (.md acc) (backE st' st1 vs) else .bad) Q := p1
      rw [if_pos hc] at z
      exact z
    refine dc_it (g := fun v σ H Q => ∀ X', Blk X scope X' → RunG X' tg v σ H Q) (tt := fun σ H Q => ∀ X', Blk X scope X' → RunCs X' ifs σ H Q) (tk := fun σ H Q => ∀ X', Blk X scope X' → RunE X' kx σ H Q) (tv := fun σ H Q => ∀ X', Blk X scope X' → RunE X' vx σ H Q) (vs := vs) (σ := σ) (Qd := fun H => Q (.ref Da) H) hW (fun i H => ∃ (w' : Wd) (st' : Env) (acc : List (DK × D)) (accV : List (Key × V)), w'.H = H ∧ Rel X.K G w' st' (L2.wipe σ vs) ∧ Step w1 w' ∧ w'.k Da = .oth ∧ w'.H Da = some (.dK accV) ∧ RepK X.K G w'.F accV acc ∧
        Post X.K G (RV X.K G) w1 σ W ((dcL vs g mt mk mv (ds.drop i) acc st').bind fun acc st' => .ok (.md acc) (backE st' st1 vs)) Q)
      ⟨w1.new Da (.dK []), wipeE st1 vs, [], [], rfl, (r1.grow (Wd.new_ok r1.ok hD) (Wd.new_grw hD)).wipe vs, (Wd.new_grw hD).step r1.ok, r1.ok.k_oth hD, upd_same, .nil, p2⟩ ?_ ?_ ?_
    · rintro i H _ ⟨w', st', acc, accV, rfl, r', s', k', h', q', p'⟩
      exact hG w' r'.ok s'.f
    · rintro i x H H2 hlt ⟨w', st', acc, accV, rfl, r', s', k', h', q', p'⟩ y
      obtain ⟨w3, d, rfl, g3, ok3, ed, q3⟩ := hY i x w' H2 hlt r'.ok s'.f y
      have edr : ds.drop i = d :: ds.drop (i + 1) := by
        rw [List.drop_eq_getElem_cons hlt]
        rw [List.getElem?_eq_getElem hlt] at ed
        rw [Option.some.inj ed]
      rw [edr] at p'
      have r3 := r'.grow ok3 g3
      have keepD : ∀ {w2 : Wd}, Step w3 w2 → w2.k Da = .oth ∧ w2.H Da = some (.dK accV) := fun {w2} s2 => by
        obtain ⟨e1, e2⟩ := s2.o Da _ (g3.h Da _ h') ((g3.k Da _ h').trans k')
        exact ⟨e2, e1⟩
      intro X' hX'
      have kx' : X'.K = X.K := by obtain ⟨_, _, _, _, _, rfl⟩ := hX'; rfl
      have nx : X'.N = X.N := by obtain ⟨_, _, _, _, _, rfl⟩ := hX'; rfl
      have hg' := hg X' hX'
      unfold SndG at hg'
      rw [kx'] at hg'
      have p3 : Post X.K G (RV X.K G) w1 σ W (((nox (g d) st').bind fun _ => bindM (nox mt) fun b => if b = true then bindM (nox mk) fun kd => bindM (nox mv) fun v => fun st => match keyD kd with
          | some k => if acc.length < 16777216 then dcL vs g mt mk mv (ds.drop (i + 1)) (putD acc k v) (wipeE st vs) else .bad
          | none => .bad
        else fun st => dcL vs g mt mk mv (ds.drop (i + 1)) acc (wipeE st vs)).bind fun acc st' => .ok (.md acc) (backE st' st1 vs)) Q := p'
      refine RunG.len (hg' w3 w3 st' (L2.wipe σ vs) x d _ ok3 r3 (Step.refl _) q3 ?_)
      cases eg : g d st' with
      | bad => rw [nox_bad eg] at p3; exact p3.elim
      | exc x5 st5 => rw [nox_exc eg] at p3; exact p3.elim
      | ok u5 st5 =>
        rw [nox_ok eg] at p3
        intro w4 σ4 r4 s4 f4 k4 hl4
        rw [nx] at hl4
        have hw4 : L2.wipe σ4 vs = L2.wipe σ vs := wipe_of_kept (pr := pr) (fun j hj hn => hpr j (by rw [← hlen]; exact hj) hn) (by rw [hl4, hlen]) k4
        refine ⟨hw4, ?_⟩
        intro X2 hX2
        have kx2 : X2.K = X.K := by obtain ⟨_, _, _, _, _, rfl⟩ := hX2; rfl
        have ht' := ht X2 hX2
        unfold SndCs Snd at ht'
        rw [kx2] at ht'
        refine ht' w4 st5 σ4 _ r4 ?_
        have p4 : Post X.K G (RV X.K G) w1 σ W ((((nox mt) st5).bind fun b => if b = true then bindM (nox mk) fun kd => bindM (nox mv) fun v => fun st => match keyD kd with
            | some k => if acc.length < 16777216 then dcL vs g mt mk mv (ds.drop (i + 1)) (putD acc k v) (wipeE st vs) else .bad
            | none => .bad
          else fun st => dcL vs g mt mk mv (ds.drop (i + 1)) acc (wipeE st vs)).bind fun acc st' => .ok (.md acc) (backE st' st1 vs)) Q := p3
        have next : ∀ (w6 : Wd) (st6 : Env) (acc6 : List (DK × D)) (accV6 : List (Key × V)), Rel X.K G w6 st6 σ4 → Step w3 w6 → w6.k Da = .oth → w6.H Da = some (.dK accV6) → RepK X.K G w6.F accV6 acc6 →
            Post X.K G (RV X.K G) w1 σ W ((dcL vs g mt mk mv (ds.drop (i + 1)) acc6 (wipeE st6 vs)).bind fun acc st' => .ok (.md acc) (backE st' st1 vs)) Q →
            ∃ (w' : Wd) (st' : Env) (acc : List (DK × D)) (accV : List (Key × V)), w'.H = w6.H ∧ Rel X.K G w' st' (L2.wipe σ vs) ∧ Step w1 w' ∧ w'.k Da = .oth ∧ w'.H Da = some (.dK accV) ∧ RepK X.K G w'.F accV acc ∧
              Post X.K G (RV X.K G) w1 σ W ((dcL vs g mt mk mv (ds.drop (i + 1)) acc st').bind fun acc st' => .ok (.md acc) (backE st' st1 vs)) Q := fun w6 st6 acc6 accV6 r6 s6 k6 h6 q6 p6 =>
          ⟨w6, wipeE st6 vs, acc6, accV6, rfl, by rw [← hw4]; exact r6.wipe vs, (s'.trans r'.ok ok3 (g3.step r'.ok)).trans ok3 r6.ok s6, k6, h6, q6, p6⟩
        cases et : mt st5 with
        | bad => rw [nox_bad et] at p4; exact p4.elim
        | exc x6 st6 => rw [nox_exc et] at p4; exact p4.elim
        | ok b st6 =>
          rw [nox_ok et] at p4
          intro b' w5 r5 s5 hb'
          subst hb'
          cases b' with
          | false =>
            refine iteF ?_
            obtain ⟨kD, hD5⟩ := keepD (s4.trans r4.ok r5.ok s5)
            exact next w5 st6 acc accV r5 (s4.trans r4.ok r5.ok s5) kD hD5 (q'.mono (g3.f.trans (s4.trans r4.ok r5.ok s5).f)) p4
          | true =>
            refine iteT ?_
            intro X3 hX3
            have kx3 : X3.K = X.K := by obtain ⟨_, _, _, _, _, rfl⟩ := hX3; rfl
            have hk' := hk X3 hX3
            unfold SndD Snd at hk'
            rw [kx3] at hk'
            refine hk' w5 st6 σ4 _ r5 ?_
            have p5 : Post X.K G (RV X.K G) w1 σ W ((((nox mk) st6).bind fun kd => bindM (nox mv) fun v => fun st => match keyD kd with
              | some k => if acc.length < 16777216 then dcL vs g mt mk mv (ds.drop (i + 1)) (putD acc k v) (wipeE st vs) else .bad
              | none => .bad).bind
              fun acc st' => .ok (.md acc) (backE st' st1 vs)) Q := p4
            cases ek : mk st6 with
            | bad => rw [nox_bad ek] at p5; exact p5.elim
            | exc x7 st7 => rw [nox_exc ek] at p5; exact p5.elim
            | ok kd st7 =>
              rw [nox_ok ek] at p5
              intro yk w6 r6 s6 q6
              intro X4 hX4
              have kx4 : X4.K = X.K := by obtain ⟨_, _, _, _, _, rfl⟩ := hX4; rfl
              have he' := he X4 hX4
              unfold SndD Snd at he'
              rw [kx4] at he'
              refine he' w6 st7 σ4 _ r6 ?_
              have p6 : Post X.K G (RV X.K G) w1 σ W ((((nox mv) st7).bind fun v => fun st => match keyD kd with
                | some k => if acc.length < 16777216 then dcL vs g mt mk mv (ds.drop (i + 1)) (putD acc k v) (wipeE st vs) else .bad
                | none => .bad).bind
                fun acc st' => .ok (.md acc) (backE st' st1 vs)) Q := p5
              cases ee : mv st7 with
              | bad => rw [nox_bad ee] at p6; exact p6.elim
              | exc x8 st8 => rw [nox_exc ee] at p6; exact p6.elim
              | ok dv st8 =>
                rw [nox_ok ee] at p6
                intro y w7 r7 s7 q7
                have s37 := ((s4.trans r4.ok r5.ok s5).trans r5.ok r6.ok s6).trans r6.ok r7.ok s7
                obtain ⟨kD, hD7⟩ := keepD s37
                have qa : RepK X.K G w7.F accV acc := q'.mono (g3.f.trans s37.f)
                have p7 : Post X.K G (RV X.K G) w1 σ W ((match keyD kd with
                  | some k => if acc.length < 16777216 then dcL vs g mt mk mv (ds.drop (i + 1)) (putD acc k dv) (wipeE st8 vs) else .bad
                  | none => .bad : Out (List (DK × D))).bind fun acc st' => .ok (.md acc) (backE st' st1 vs)) Q := p6
                cases ekd : keyD kd with
                | none => rw [ekd] at p7; exact p7.elim
                | some k =>
                rw [ekd] at p7
                have p8 : Post X.K G (RV X.K G) w1 σ W ((if acc.length < 16777216 then dcL vs g mt mk mv (ds.drop (i + 1)) (putD acc k dv) (wipeE st8 vs) else .bad : Out (List (DK × D))).bind fun acc st' => .ok (.md acc) (backE st' st1 vs)) Q := p7
                by_cases hz : acc.length < 16777216
                · rw [if_pos hz] at p8
                  refine ⟨accV, kyV k, kV_of_key q6 ekd, hD7, by rw [qa.length, sizeLine_eq]; exact hz, ?_⟩
                  have nf : w7.k Da ≠ .frz := by rw [kD]; intro z; cases z
                  have r8 : Rel X.K G (w7.put Da (.dK (putK accV (kyV k) y))) st8 σ4 := by
                    refine ⟨Wd.put_ok r7.ok nf, r7.len, fun j s e => ?_, r7.tk⟩
                    obtain ⟨x, hx, q⟩ := r7.at_ j s e
                    refine ⟨x, hx, ?_⟩
                    cases s with
                    | un => trivial
                    | fz d => exact q
                    | ml xs =>
                      obtain ⟨b, vs', e1, k, hh, rr⟩ := q
                      have n : b ≠ Da := by rintro rfl; rw [kD] at k; cases k
                      exact ⟨b, vs', e1, k, by unfold Wd.put; dsimp only; rw [upd_ne n]; exact hh, rr⟩
                    | md xs =>
                      obtain ⟨b, vs', e1, k, hh, rr⟩ := q
                      have n : b ≠ Da := by rintro rfl; rw [kD] at k; cases k
                      exact ⟨b, vs', e1, k, by unfold Wd.put; dsimp only; rw [upd_ne n]; exact hh, rr⟩
                    | mi c xs =>
                      obtain ⟨b, dx, vs', e1, k, hh, rr⟩ := q
                      have n : b ≠ Da := by rintro rfl; rw [kD] at k; cases k
                      exact ⟨b, dx, vs', e1, k, by unfold Wd.put; dsimp only; rw [upd_ne n]; exact hh, rr⟩
                  refine ⟨w7.put Da (.dK (putK accV (kyV k) y)), wipeE st8 vs, putD acc k dv, putK accV (kyV k) y, rfl, by rw [← hw4]; exact r8.wipe vs, ?_, kD, upd_same, qa.put q7, p8⟩
                  have s17 := (s'.trans r'.ok ok3 (g3.step r'.ok)).trans ok3 r7.ok s37
                  exact ⟨s17.f, fun b o e k => by
                    obtain ⟨e1, k1⟩ := s17.o b o e k
                    have n : b ≠ Da := by rintro rfl; rw [hD] at e; cases e
                    exact ⟨by unfold Wd.put; dsimp only; rw [upd_ne n]; exact e1, k1⟩, fun b e => by
                    unfold Wd.put at e; dsimp only at e
                    by_cases n : b = Da
                    · subst n; rw [upd_same] at e; cases e
                    · rw [upd_ne n] at e; exact s17.d b e, s17.t, s17.w⟩
                · rw [if_neg hz] at p8; exact p8.elim
    · rintro H ⟨w', st', acc, accV, rfl, r', s', k', h', q', p'⟩
      have e : ds.drop ds.length = [] := List.drop_length
      rw [e] at p'
      exact p' (.ref Da) w' (r1.back s'.f hc r') s' ⟨Da, accV, rfl, hD, k', h', q'⟩
  · have z : Post X.K G (RV X.K G) w1 σ W (if calmE st1 vs = true then (dcL vs g mt mk mv ds [] (wipeE st1 vs)).bind fun acc st' => .ok (.md acc) (backE st' st1 vs) else .bad) Q := p1
    rw [if_neg hc] at z
    exact z.elim
section
variable {G : Nat → Addr} {X : Cx} {W : WX} {tg iter kx vx : Expr} {ifs : List Expr} {scope : Scope} {own : List (Str × Nat)} {pr prS : List Nat} {mi : M (List D)} {g : D → M Unit} {mt : M Bool} {mk mv : M D} {pos spos : Pos}
theorem snd_dc (hc : X.calm = true) (hN : X.N.Nodup) (ok : BlkOk X.N X.env.scope scope own) (hpr : ∀ j, j < X.N.length → j ∉ own.map (·.2) → j ∈ pr) (hi : SndI G X W tg iter mi)
    (hg : ∀ X', Blk X scope X' → SndG G X' W0 pr tg g) (ht : ∀ X', Blk X scope X' → SndCs G X' W0 ifs mt) (hk : ∀ X', Blk X scope X' → SndD G X' W0 kx mk) (he : ∀ X', Blk X scope X' → SndD G X' W0 vx mv) (hs : ∀ x, foldedSetIterable iter X.env x = pure x := by intro _; rfl) :
    SndV G X W (.DictComp kx vx [⟨tg, iter, ifs, 0⟩] scope pos) (dcM (own.map (·.2)) mi g mt mk mv) := by
  intro w st σ Q r p; refine ⟨fun pins s I => ?_⟩
  refine (pe_dc (g := fun v σ H Q => ∀ X', Blk X scope X' → RunG X' tg v σ H Q) (tt := fun σ H Q => ∀ X', Blk X scope X' → RunCs X' ifs σ H Q) (tk := fun σ H Q => ∀ X', Blk X scope X' → RunE X' kx σ H Q) (tv := fun σ H Q => ∀ X', Blk X scope X' → RunE X' vx σ H Q) hc hN pi_run ok
    (fun s H C cl fp => ⟨fun pins s' σ H v u Q I r h => h _ ⟨s, _, C, cl, fp, rfl⟩ pins s' u I r⟩) (fun s H C cl fp => ⟨fun pins s' σ H Q I h => h _ ⟨s, _, C, cl, fp, rfl⟩ pins s' I⟩) (fun s H C cl fp => ⟨fun pins s' σ H Q I h => h _ ⟨s, _, C, cl, fp, rfl⟩ pins s' I⟩) (fun s H C cl fp => ⟨fun pins s' σ H Q I h => h _ ⟨s, _, C, cl, fp, rfl⟩ pins s' I⟩) hs).run pins s σ w.H Q I ?_
  exact dc_ok hpr hi hg ht hk he I.len r p
end
end Rz
namespace Rz
open PySem PySem.Spec PyProof.Rows L2 NdefX ClX
structure CStat (K : PySem.W.Frag) (C : Addr) (mc : Value) (m : Str) (p g : Addr) : Prop where
  at_ : PySem.W.findCls K (.ref C) mc m = some (.get (.builtin "staticmethod.__get__") (.ref p) .none (.ref C))
  rc : ∃ rest, PySem.W.recIn K p "staticmethod" = some (.ref g :: rest)
section
variable {G : Nat → Addr} {X : Cx} {W : WX} {e : Expr} {es : List Expr} {pos apos np : Pos} {f : Env → Res} {io : List Nat} {k j n : Nat} {C p g : Addr} {mc : Value} {x m : Str} {ma : M (List Ag)}
theorem snd_cvalI {i : Int} {u : Value} {fn : Str} (hm : X.mg x = some (.ref C)) (r : CRead X.K C mc) (c : CVal X.K C mc fn (.int i) u) (hg : Gl X x := by rfl) (hdb : (x == ("__debug__" : Str)) = false := by decide)
    (hb : attributeBase (.Name x np) fn X.env (eval (.Name x np) X.env) = eval (.Name x np) X.env := by rfl) : SndD G X W (.Attribute (.Name x np) fn pos) (pureM (.int i)) := fun w st σ Q rr pp =>
  RunE.of (pe_cval (pe_glob hg hm (v := .ref C) rfl hdb) hb) ⟨C, mc, .int i, u, rfl, r, c, pp _ w rr (Step.refl w) (.int i)⟩
theorem snd_static {pl : Sem Bool} (tk : Takes X W) (hm : X.mg x = some (.ref C)) (r : CRead X.K C mc) (c : CStat X.K C mc m p g) (F : FnA X.prog X.w X.K X.mg X.base G j g n io f) (hr : Room k X.A) (hj : j ≤ k)
    (hl : SndA G X W (e :: es) ma) (hn : (e :: es).length = n) (ha : PA X (e :: es) (RunL X (e :: es))) (hg : Gl X x := by rfl) (hdb : (x == ("__debug__" : Str)) = false := by decide)
    (hst : starEach (e :: es) X.env = (false, eval e X.env) :: starEach es X.env := by rfl) (hpl : (backTo pos (starEach es X.env)).any (·.1) = false := by rfl)
    (ht : eval (.Call (.Attribute (.Name x np) m apos) (e :: es) [] pos) X.env = (do
      let ov ← eval (.Name x np) X.env
      standAt apos.atName
      let (f, first) ← holding [ov] (getMethod ov m pl)
      callWith pos f first (backTo pos (starEach (e :: es) X.env)) (backToKw pos (keywordEach [] X.env))) := by rfl) :
    SndV G X W (.Call (.Attribute (.Name x np) m apos) (e :: es) [] pos) (callM f io ma) := by
  intro w st σ Q rr pp; refine ⟨fun pins s I => ?_⟩
  have h1 : RunE X (.Name x np) σ w.H fun v H1 => v = .ref C ∧ H1 = w.H := RunE.of (pe_glob hg hm (v := .ref C) rfl hdb) ⟨rfl, rfl⟩
  refine PySem.W.methodCall_KW (pl := pl) (thn (h1 pins s I) fun u s1 ⟨v, H1, I1, rv, ev, eH⟩ => ?_) ht
  subst ev eH
  obtain rfl : u = Value.ref C := rv
  refine PySem.W.method_cls I1.kIn r.ga ?_
  obtain ⟨rest, hp⟩ := c.rc
  refine PySem.W.cls_bind I1.kIn r.rd c.at_ (wpAny_call (PySem.W.sm_get (s := { s1 with toks := s1.toks + 1 }) I1.kIn hp (PySem.W.handed_on rfl ?_)))
  have I2 := I1.tok (s1.toks + 1)
  obtain ⟨fd, ps, h3, h4, hk, _⟩ := F.ex
  have hA : RunL X (e :: es) σ w.H fun us H => spM X.K G n io f us H Q (WE W σ) := by
    refine RunL.len ?_
    rw [hn]
    exact args_then hl rr pp n
  refine PySem.W.callWith_K (first := []) (h₀ := X.base) I2.ok.mod.kin hk (thn (ha.run pos pins _ σ w.H _ I2 hA) fun us s2 ⟨vs, H2, I3, rv, q2⟩ => ⟨I3.kIn, ?_⟩) hst hpl
  exact wpAny_call (run_fnA (us := us) (vs := vs) F hr hj (passAt tk σ) I3 rv q2)
end
section
variable {P : Program} {w : World} {K : PySem.W.Frag} {mg : Str → Option Value} {base : Heap} {k : Nat} {f : Addr} {fd : FuncData} {x qual : Str} {params : Arguments} {body : List Stmt} {scope : Scope} {N ps : List Str} {G : Nat → Addr} {io : List Nat} {m : M Fl}
theorem FnA.of (F : FunD K x qual params body scope [] [] f fd) (h1 : PySem.W.fnIn K f = true) (h2 : PySem.W.isFn K (.ref f) = true) (S : FnScope N ps scope) (hio : ∀ i ∈ io, i < ps.length)
    (h : ∀ (kV doc pm : Value) (an : Option Addr) (cdv ct : Value) (us : List Value), us.length = ps.length → bindArgs (PySem.W.fnOf x qual params body scope .none kV doc pm an cdv ct) ⟨us, []⟩ = pure (ps.zip us))
    (hbody : ∀ (cdv : Value) (A : Around) (outer : List PySem.Env) (s : Shared) (H : Hp) (E : XK), Room k (A.deeper (envOfC qual scope s.heap.objs.size f cdv)) → SndB G (cxOf (L2.CX P w) P w K mg base N qual scope f cdv A outer s H E) (WXE E) io body m) :
    FnA P w K mg base G (k + 1) f ps.length io (bodyF N.length io m) :=
  ⟨⟨fd, ps, h1, h2, F.kp, F.bindsN h, rfl, okF_of F S hio hbody⟩⟩
theorem FnA.mono {k j n : Nat} {f : Addr} {F : Env → Res} (h : FnA P w K mg base G j f n io F) (hj : j ≤ k) : FnA P w K mg base G k f n io F := by
  obtain ⟨fd, ps, h1, h2, h3, h4, h5, h6⟩ := h.ex
  exact ⟨⟨fd, ps, h1, h2, h3, h4, h5, h6.mono hj⟩⟩
theorem FnI.mono {k j : Nat} {f : Addr} {ks : List Str} {F : Env → Res} (h : FnI P w K mg base G j f ks F) (hj : j ≤ k) : FnI P w K mg base G k f ks F :=
  ⟨fun A outer s H us ws self rv zs Q E hr => h.run A outer s H us ws self rv zs Q E (hr.mono hj)⟩
end
theorem insB_ok {K : PySem.W.Frag} {x : Str} (c : insB K x = true) : InsTy K (He.ga K x) := by
  obtain ⟨c1, c⟩ := He.ba c
  obtain ⟨c2, c⟩ := He.ba c
  obtain ⟨c3, c⟩ := He.ba c
  obtain ⟨c4, c5⟩ := He.ba c
  exact ⟨He.cls_ok c1, He.eqO_ok c2, He.eqO_ok c3, of_decide_eq_true c4, of_decide_eq_true c5⟩
theorem kitB2_ok {K : PySem.W.Frag} {a b : Value} {r : Bool} (c : kitB2 K a b r = true) : PySem.W.kitOne K a b = some r := of_decide_eq_true c
theorem readB_ok {K : PySem.W.Frag} {x : Str} (c : readB K x = true) : CRead K (He.ga K x) (.type "type") := by
  obtain ⟨c1, c2⟩ := He.ba c
  exact ⟨c1, He.eqO_ok c2⟩
theorem cvalB_ok {K : PySem.W.Frag} {x f : Str} {v : V} (c : cvalB K x f v = true) : ∃ u, CVal K (He.ga K x) (.type "type") f v u := by
  unfold cvalB at c
  split at c
  · rename_i u h
    exact ⟨u, h, He.relB_ok c⟩
  · cases c
theorem statB_ok {K : PySem.W.Frag} {x m : Str} {g : Addr} (c : statB K x m g = true) : ∃ p, CStat K (He.ga K x) (.type "type") m p g := by
  unfold statB at c
  split at c
  · rename_i b p C h
    have c1 : b = "staticmethod.__get__" := of_decide_eq_true (He.ba c).1
    have c2 : C = He.ga K x := of_decide_eq_true (He.ba (He.ba c).2).1
    have c3 := (He.ba (He.ba c).2).2
    subst c1 c2
    split at c3
    · rename_i h2 rest hr
      have e3 : h2 = g := of_decide_eq_true c3
      subst e3
      exact ⟨p, h, rest, hr⟩
    · cases c3
  · cases c
end Rz
namespace Rz
open PySem PySem.Spec PyProof.Rows L2
section
variable {P : Program} {w : World} {K : PySem.W.Frag} {mg mb : Str → Option Value} {CX : CXT} {k : Nat} {fa a : Addr} {fd : FuncData} {x : Str} {sp : Sp} {sh : Shared} {vs : List Value} {ns : List Int}
abbrev Good (sh : Shared) : Result → Shared → Prop := fun r s' => r = .ok (.ret (.bool true)) ∧ OldK sh.heap s'.heap ∧ s'.os = sh.os ∧ AllBare s'.gens
theorem law_coreG (KX : K.In sh.heap) (hns : sh.heap.Ns mainGlobals mg) (hb : sh.heap.Ns builtinsNs mb) (hbb : ∀ x : Str, x ≠ "__name__" → mb x = bootBuiltins x) (hlim : sh.heap.NoLimit) (hg : sh.gens = #[])
    (ha : sh.heap.get? a = some { cls := .type "list", data := .seq vs.toArray }) (hr : Room k callerA)
    (F : ∀ base : Heap, K.In base → base.Ns mainGlobals mg → FnG P w K mg base CX k fa fd [x] sp) (hbind : ∀ (s : Shared) (u : Value), BindsTo s fd ⟨[u], []⟩ [(x, u)])
    (H : Hp) (hO : Only H) (hS : sp [.ref a] H (fun v _ => v = .bl true) fun _ _ _ => False) (hok : HOk P w H sh.heap) (hA : ∀ b, H b ≠ none → b = a) (hK : H a ≠ none → K.lookup a = none)
    (hCX : ∀ H e s', CX [] H sh (fun _ _ _ => False) e s' → False) : codeAny (model P w) callerA (.call (.ref fa) ⟨[.ref a], []⟩) (Good sh) sh := by
  have hidden : ∀ {c : Addr} {o : Obj}, sh.heap.get? c = some o → H c = none → (hidT sh.heap H).get? c = some o := fun e n => hidT_get e n
  have noD : ∀ {c : Addr} {o : Obj} {es : Array DictEntry} {ep : Nat}, sh.heap.get? c = some o → o.data = .dict es ep → H c = none := fun {c o es ep} e d => by
    cases q : H c with
    | none => rfl
    | some u =>
      have ec : c = a := hA c (by rw [q]; simp)
      rw [ec, ha] at e
      cases e
      exact nomatch d
  have spaces : ∀ {c : Addr} {m : Str → Option Value}, sh.heap.Ns c m → (hidT sh.heap H).Ns c m := fun {c m} z => by
    obtain ⟨o, es, ep, e, d, r⟩ := z
    exact ⟨o, es, ep, hidden e (noD e d), d, r⟩
  have inB : K.In (hidT sh.heap H) := fun c o e => by
    refine hidden (KX c o e) ?_
    cases q : H c with
    | none => rfl
    | some u =>
      have ec : c = a := hA c (by rw [q]; simp)
      rw [ec] at e q
      rw [hK (by rw [q]; simp)] at e
      cases e
  have md : Mod K mg (hidT sh.heap H) := by
    obtain ⟨mc, h1, h2⟩ := hlim
    exact ⟨inB, spaces hns, ⟨mb, spaces hb, hbb⟩, ⟨mc, spaces h1, h2⟩⟩
  have e0 : Env0 P w K mg (hidT sh.heap H) callerA [] sh H := by
    refine ⟨rfl, md, fun c o e => of_hidT e, Nat.le_of_eq (hidT_size _ _), trivial, ?_, hok, .of_eq hg⟩
    intro c hc
    exact nomatch (show c ∈ ([] : List Addr) from hc)
  have run := (F _ inB (spaces hns)).run callerA [] sh H ⟨[.ref a], []⟩ [.ref a] [.ref a] (fun v _ => v = .bl true) (fun _ _ _ => False) hr rfl e0 (hbind sh (.ref a)) (.cons rfl .nil) hS
  refine codeAny_mono run fun r s' h => ?_
  cases r with
  | error e => exact (hCX H e s' h).elim
  | ok fl =>
    cases fl with
    | ret u =>
      obtain ⟨v, H', os, bare, un, hok', r', q⟩ := h
      have q : v = .bl true := q
      rw [q] at r'
      have eu : u = Value.bool true := r'
      rw [eu]
      refine ⟨rfl, OldK.of_keep fun c o e => ?_, os, bare⟩
      cases z : H c with
      | none => exact un.keep c o e z (fun y => nomatch (show c ∈ ([] : List Addr) from y)) (by simp)
      | some u2 =>
        rcases hO c with y | ⟨ob, xs, y⟩
        · rw [z] at y; cases y
        · obtain ⟨e1, _⟩ := hok c _ y
          obtain ⟨e2, _⟩ := hok' c _ (un.frzs c ob _ y)
          rw [e] at e1; cases e1
          exact e2
    | next => exact h.elim
    | brk => exact h.elim
    | cont => exact h.elim
theorem law_callG (KX : K.In sh.heap) (hns : sh.heap.Ns mainGlobals mg) (hb : sh.heap.Ns builtinsNs mb) (hbb : ∀ x : Str, x ≠ "__name__" → mb x = bootBuiltins x) (hlim : sh.heap.NoLimit) (hg : sh.gens = #[])
    (ha : sh.heap.get? a = some { cls := .type "list", data := .seq vs.toArray }) (hi : IntsAre vs ns) (hl : ns.length ≤ sizeLine) (hr : Room k callerA)
    (F : ∀ base : Heap, K.In base → base.Ns mainGlobals mg → FnG P w K mg base CX k fa fd [x] sp) (hbind : ∀ (s : Shared) (u : Value), BindsTo s fd ⟨[u], []⟩ [(x, u)])
    (hsp : ∀ H : Hp, Only H → SqL K H a (ns.map V.int) → sp [.ref a] H (fun v _ => v = .bl true) fun _ _ _ => False)
    (hCX : ∀ H e s', CX [] H sh (fun _ _ _ => False) e s' → False) : codeAny (model P w) callerA (.call (.ref fa) ⟨[.ref a], []⟩) (Good sh) sh := by
  have rv := vals_ints hi
  have lenV := hi.length
  cases hk : K.lookup a with
  | some o =>
    have e := KX a o hk
    rw [ha] at e
    cases e
    have only : Only (fun _ => none : Hp) := fun _ => .inl rfl
    have sq : SqL K (fun _ => none : Hp) a (ns.map V.int) := .inr ⟨_, vs.toArray, _, hk, rfl, rfl, rfl, by rw [List.size_toArray, lenV]; exact hl, by simpa using rv⟩
    exact law_coreG KX hns hb hbb hlim hg ha hr F hbind _ only (hsp _ only sq) (fun b u z => nomatch (show (none : Option HO) = some u from z)) (fun b z => absurd rfl z) (fun z => absurd rfl z) hCX
  | none =>
    let H1 : Hp := fun b => if b = a then some (.frz { cls := .type "list", data := .seq vs.toArray } (.lst (ns.map V.int))) else none
    have at1 : ∀ b, (b = a ∧ H1 b = some (.frz { cls := .type "list", data := .seq vs.toArray } (.lst (ns.map V.int)))) ∨ (b ≠ a ∧ H1 b = none) := fun b => by
      by_cases h : b = a
      · exact .inl ⟨h, if_pos h⟩
      · exact .inr ⟨h, if_neg h⟩
    have only : Only H1 := fun b => by
      rcases at1 b with ⟨_, e⟩ | ⟨_, e⟩
      · exact .inr ⟨_, _, e⟩
      · exact .inl e
    have sq : SqL K H1 a (ns.map V.int) := .inl (.inr ⟨_, if_pos rfl⟩)
    have okH : HOk P w H1 sh.heap := fun b u z => by
      rcases at1 b with ⟨h, e⟩ | ⟨h, e⟩
      · rw [e] at z
        cases z
        rw [h]
        exact ⟨ha, by rw [List.length_map]; exact hl, vs, _, rv, ha⟩
      · rw [e] at z; cases z
    refine law_coreG KX hns hb hbb hlim hg ha hr F hbind H1 only (hsp _ only sq) okH (fun b z => ?_) (fun _ => hk) hCX
    rcases at1 b with ⟨h, _⟩ | ⟨_, e⟩
    · exact h
    · exact absurd e z
end
theorem walk_ofG {l : PySem.W.OpenLaw} {n k : Nat} {q : Program} {loose : List Str} {XP : (Str → Option Value) → Heap → Prop} {YP : World → Heap → Prop} {d : DefRec} {CX : World → CXT} {x : Str}
    (hn : l.most = some n) (hn2 : n ≤ sizeLine) (hdf : d.params.defaults = []) (hr : Room k callerA)
    (F : ∀ (w : World) (mg : Str → Option Value) (fa : Addr) (h : Heap), YP w h → h.Ns mainGlobals mg → mg d.name = some (.ref fa) →
      ∃ (K : PySem.W.Frag) (fd : FuncData) (sp : Sp), K.In h ∧ (∀ (s : Shared) (u : Value), BindsTo s fd ⟨[u], []⟩ [(x, u)]) ∧
        (∀ (H : Hp) (a : Addr) (ns : List Int), ns.length ≤ n → Only H → SqL K H a (ns.map V.int) → sp [.ref a] H (fun v _ => v = .bl true) fun _ _ _ => False) ∧
        ∀ base : Heap, K.In base → base.Ns mainGlobals mg → FnG l.prog w K mg base (CX w) k fa fd [x] sp)
    (hCX : ∀ (w : World) (H : Hp) (s : Shared) (e : Value) (s' : Shared), CX w [] H s (fun _ _ _ => False) e s' → False) :
    PySem.W.WalkO q loose XP YP l.row.toRowW d [] (fun f vs => PySem.call f vs) := by
  refine Att.attach_call hn hdf fun w s0 s1 mg mb fa o pm cd doc a vs ns G Y ho hd hcd hmg hobj hints hlen hg => ?_
  obtain ⟨K, fd, sp, KX, hb, hsp, hF⟩ := F w mg fa _ Y G.T.g hmg
  exact law_callG KX G.T.g G.T.b G.T.builtins G.T.nolimit hg hobj hints (Nat.le_trans hlen hn2) hr hF hb (fun H hO hS => hsp H a ns hlen hO hS) fun H e s' => hCX w H s1 e s'
theorem cx_out (P : Program) (w : World) (H : Hp) (s : Shared) (e : Value) (s' : Shared) (h : L2.CX P w [] H s (fun _ _ _ => False) e s') : False := by
  obtain ⟨_, _, _, _, _, _, _, _, _, _, _, _, z⟩ := h
  exact z
def tabF0 (tn : Addr → Option Str) (H : Hp) : Hp := fun b => match tn b with
  | some _ => none
  | none => H b
def tabK0 (tn : Addr → Option Str) (H : Hp) : Addr → Kd := fun b => match tn b with
  | some q => .tab q
  | none => (match H b with
    | some _ => .frz
    | none => .oth)
theorem law_spT {K : PySem.W.Frag} {G : Nat → Addr} {f : Env → Res} {H : Hp} {a : Addr} {ns : List Int} {tn : Addr → Option Str} (hT : ∀ b q, tn b = some q → H b = some (.tbl #[])) (hD : ∀ b ps, H b = some (.tbl ps) → ∃ q, tn b = some q) (hK : ∀ a q, tn a = some q ↔ ∃ x ∈ lamDefs, lamB K x = true ∧ a = tabA K x ∧ q = x ++ ".<locals>.<lambda>") (hS : SqL K H a (ns.map V.int)) (hf : ∃ o, f [.fz (.scr ns)] = .ret (.fz (.bl true)) o) :
    spM K G 1 [] f [.ref a] H (fun v _ => v = .bl true) fun _ _ _ => False := by
  obtain ⟨o, hf⟩ := hf
  have kf : ∀ b, tabK0 tn H b = .frz ↔ ∃ o, tabF0 tn H b = some o := fun b => by
    unfold tabK0 tabF0
    cases tn b with
    | some q => simp
    | none => cases H b <;> simp
  have own : ∀ b i, tabK0 tn H b ≠ .own i := fun b i => by
    unfold tabK0
    cases tn b with
    | some q => intro z; cases z
    | none => cases H b <;> intro z <;> cases z
  have tab : ∀ b q, tabK0 tn H b = .tab q → tn b = some q := fun b q e => by
    unfold tabK0 at e
    cases z : tn b with
    | some q' => rw [z] at e; cases e; rfl
    | none =>
      rw [z] at e
      cases y : H b <;> rw [y] at e <;> cases e
  have sub : Same (tabF0 tn H) H := fun b u e => by
    unfold tabF0 at e
    cases z : tn b with
    | some q => rw [z] at e; cases e
    | none => rw [z] at e; exact e
  have up : ∀ b u, H b = some u → (∀ ps, u ≠ .tbl ps) → tabF0 tn H b = some u := fun b u e n => by
    unfold tabF0
    cases z : tn b with
    | some q =>
      have := hT b q z
      rw [e] at this
      exact absurd (Option.some.inj this) (n _)
    | none => exact e
  have hS2 : SqL K (tabF0 tn H) a (ns.map V.int) := by
    rcases hS with (q | ⟨ob, q⟩) | q
    · exact .inl (.inl (up _ _ q (fun ps z => by cases z)))
    · exact .inl (.inr ⟨ob, up _ _ q (fun ps z => by cases z)⟩)
    · exact .inr q
  refine ⟨rfl, ⟨tabF0 tn H, tabK0 tn H, H⟩, [.fz (.scr ns)], rfl, ⟨sub, kf, fun b i e => absurd e (own b i), fun b q e => ?_, fun b ps e => ?_, fun b c n e => ?_⟩, ⟨rfl, fun i s e => ?_, fun b q => Iff.trans ⟨tab b q, fun z => ?_⟩ (hK b q)⟩, fun b i e => absurd e (own b i), ?_⟩
  · refine ⟨#[], hT b q (tab b q e), True.intro, fun pos cv hc => ?_⟩
    have z : codeAmong pos [] = some cv := hc
    simp [codeAmong] at z
  · obtain ⟨q, hq⟩ := hD b ps e
    refine ⟨q, ?_⟩
    show tabK0 tn H b = _
    unfold tabK0
    rw [hq]
  · have e : H b = some (LamX.CodeO c n) := e
    show tabK0 tn H b = _
    unfold tabK0
    cases z : tn b with
    | some q =>
      have := hT b q z
      rw [e] at this
      exact absurd (Option.some.inj this) (LamX.codeO_ne _)
    | none => rw [e]
  · cases i with
    | zero =>
      have e : Sl.fz (.scr ns) = s := by simpa using e
      subst e
      exact ⟨.ref a, rfl, .ref a, rfl, .scr hS2⟩
    | succ i => simp at e
  · show tabK0 tn H b = _
    unfold tabK0
    rw [z]
  · rw [hf]
    intro u w' _ _ r _
    have r : Rep K G w'.F u (.bl true) := r
    cases r
    rfl
def noLamB (K : PySem.W.Frag) : Bool := lamDefs.all fun x => !lamB K x
theorem law_sp {K : PySem.W.Frag} {G : Nat → Addr} {f : Env → Res} {H : Hp} {a : Addr} {ns : List Int} (hO : Only H) (hL : noLamB K = true) (hS : SqL K H a (ns.map V.int)) (hf : ∃ o, f [.fz (.scr ns)] = .ret (.fz (.bl true)) o) :
    spM K G 1 [] f [.ref a] H (fun v _ => v = .bl true) fun _ _ _ => False := by
  have no : ∀ x ∈ lamDefs, ¬ lamB K x = true := fun x hx hb => by
    have := List.all_eq_true.mp hL x hx
    rw [hb] at this
    cases this
  refine law_spT (tn := fun _ => none) (fun _ _ z => (by cases z)) (fun b ps e => ?_) (fun a q => ⟨fun z => (by cases z), fun ⟨x, hx, hb, _⟩ => (no x hx hb).elim⟩) hS hf
  rcases hO b with z | ⟨ob, xs, z⟩ <;> rw [e] at z <;> cases z
end Rz
namespace Rz
open PySem PySem.Spec PyProof.Rows L2 NdefX ClX
structure FunC (K : PySem.W.Frag) (fl name qual : Str) (params : Arguments) (body : List Stmt) (scope : Scope) (D f : Addr) : Prop where
  kp : PySem.W.keepIn K (.ref f) = true
  fi : PySem.W.fnIn K f = true
  fn : PySem.W.isFn K (.ref f) = true
  ex : ∃ (oc : Value) (od : Option Addr) (osl : Array (Option Value)) (kV doc pm ct : Value) (an : Option Addr) (cda cc : Addr) (cl ccl : Value) (cld cdd : Option Addr) (csl ccs : Array (Option Value)) (vs : Array Value) (tf : Tok) (cdD : ClassData),
    K.lookup f = some ⟨oc, od, .func (PySem.W.fnX name qual params body scope [("__class__", cc)] .none kV doc pm an (.ref cda) ct), osl⟩ ∧ PySem.W.codeIn K (.ref cda) qual = true ∧ K.lookup cc = some ⟨cl, cld, .cell (some (.ref D)), csl⟩ ∧
      K.lookup cda = some ⟨ccl, cdd, .fields vs, ccs⟩ ∧ vs[2]? = some (.str fl tf) ∧ PySem.W.clsIn K D = some cdD
theorem DefC.funC {K : PySem.W.Frag} {fl : Str} {d : DefC} (e : fnY K d.at_ = d.val) (c : d.ok fl K = true) : FunC K fl d.name d.qual d.params d.body d.scope (He.ga K d.cls) (He.fAd K d.at_) := by
  obtain ⟨kp, c⟩ := He.ba c
  obtain ⟨fi, c⟩ := He.ba c
  obtain ⟨fn, c⟩ := He.ba c
  obtain ⟨cs, c⟩ := He.ba c
  refine ⟨kp, fi, fn, ?_⟩
  unfold fnY at e
  cases q : K.lookup (He.fAd K d.at_) with
  | none => rw [q] at c; cases c
  | some o =>
    obtain ⟨oc, od, dt, osl⟩ := o
    rw [q] at c e
    cases dt with
    | func fd =>
      obtain ⟨n1, n2, n3, n4, n5, n6, n7, n8, n9, n10, n11, n12, n13, n14, n15⟩ := fd
      have e2 : (some (n1, n2, n3, n4, n5, n6, n7.map (·.1), n8, n15) : FnY) = (some (d.name, d.qual, d.params, .stmts d.body, d.scope, mainGlobals, ["__class__"], .none, builtinsNs) : FnY) := e
      simp only [Option.some.injEq, Prod.mk.injEq] at e2
      obtain ⟨h1, h2, h3, h4, h5, h6, h7, h8, h9⟩ := e2
      subst h1 h2 h3 h4 h5 h6 h8 h9
      obtain ⟨k1, k2⟩ := He.ba (show (PySem.W.codeIn K n13 d.qual && (clCell K (He.ga K d.cls) n7 && codeAt K fl n13)) = true from c)
      obtain ⟨k2, k3⟩ := He.ba k2
      match n7, h7, k2 with
      | [(x, cc)], h7, k2 =>
        have hx : x = "__class__" := by simpa using h7
        subst hx
        have k2 : (match K.lookup cc with | some ⟨_, _, .cell (some (.ref d2)), _⟩ => decide (d2 = He.ga K d.cls) | _ => false) = true := k2
        split at k2
        · rename_i cl cld d2 csl hcc
          have hd : d2 = He.ga K d.cls := of_decide_eq_true k2
          subst hd
          cases n13 with
          | ref cda =>
            have k3 : (match K.lookup cda with | some ⟨_, _, .fields vs, _⟩ => (match (vs[2]? : Option Value) with | some (.str y _) => decide (y = fl) | _ => false) | _ => false) = true := k3
            split at k3
            · rename_i ccl cdd vs ccs hcd
              split at k3
              · rename_i y tf hv
                have hy : y = fl := of_decide_eq_true k3
                subst hy
                obtain ⟨cdD, hD⟩ := Option.isSome_iff_exists.mp cs
                exact ⟨oc, od, osl, n9, n10, n11, n14, n12, cda, cc, cl, ccl, cld, cdd, csl, ccs, vs, tf, cdD, rfl, k1, hcc, hcd, hv, hD⟩
              · cases k3
            · cases k3
          | _ => cases k3
        · cases k2
    | _ => cases c
section
variable {P : Program} {w : World} {K : PySem.W.Frag} {mg : Str → Option Value} {base : Heap} {k : Nat} {f D : Addr} {fl name qual : Str} {params : Arguments} {body : List Stmt} {scope : Scope} {N ps : List Str} {G : Nat → Addr} {io : List Nat} {m : M Fl}
structure SupG (P : Program) (K : PySem.W.Frag) (mg : Str → Option Value) (fl : Str) : Prop where
  file : ((P.main.file : Str) == fl) = true
  sup : mg "super" = none
  top : (P.main.scope.names.lookup ("super" : Str)).isSome = false
  opq : PySem.W.nsIn K cStatics "thirdparty.any" = some none
structure SupS (params : Arguments) (scope : Scope) (ar : Str) : Prop where
  k1 : scope.names.lookup ("super" : Str) = some .globalImplicit
  k2 : scope.names.lookup ("__class__" : Str) = some .free
  hd : ∃ a0 : Arg, (params.posonlyargs ++ params.args).head? = some a0 ∧ a0.arg = ar
theorem FunC.sup (F : FunC K fl name qual params body scope D f) (g : SupG P K mg fl) {ar : Str} (hs : SupS params scope ar) : ∃ (oc : Value) (od : Option Addr) (osl : Array (Option Value)) (kV doc pm ct : Value) (an : Option Addr) (cda cc : Addr) (cl : Value) (cld : Option Addr) (csl : Array (Option Value)),
    K.lookup f = some ⟨oc, od, .func (PySem.W.fnX name qual params body scope [("__class__", cc)] .none kV doc pm an (.ref cda) ct), osl⟩ ∧ PySem.W.codeIn K (.ref cda) qual = true ∧ K.lookup cc = some ⟨cl, cld, .cell (some (.ref D)), csl⟩ ∧
      ∀ (A : Around) (outer : List PySem.Env) (s : Shared) (H : Hp) (E : XK), SupAt (ncx (L2.CX P w) P w K mg base N (nfC name qual params body scope cc cda) f A outer s H E) D ar := by
  obtain ⟨oc, od, osl, kV, doc, pm, ct, an, cda, cc, cl, ccl, cld, cdd, csl, ccs, vs, tf, cdD, h1, h2, h3, h4, h5, h6⟩ := F.ex
  obtain ⟨a0, ha, hn⟩ := hs.hd
  exact ⟨oc, od, osl, kV, doc, pm, ct, an, cda, cc, cl, cld, csl, h1, h2, h3, fun A outer s H E => ⟨hs.k1, hs.k2, ⟨f, cda, cc, _, a0, _, _, _, _, _, _, _, _, _, vs, fl, tf, cdD, rfl, rfl, (by show List.lookup _ [(("__class__" : Str), cc)] = some cc; exact (by simp [List.lookup])), h1, ha, hn, h4, h5, g.file, h3, h6⟩, g.sup, g.top, g.opq⟩⟩
theorem FunC.fnA (F : FunC K fl name qual params body scope D f) (g : SupG P K mg fl) {ar : Str} (hs : SupS params scope ar) (S : NScope N ps ["__class__"] scope) (hio : ∀ i ∈ io, i < ps.length)
    (h : ∀ (kV doc pm : Value) (an : Option Addr) (cdv ct : Value) (cc : Addr) (us : List Value), us.length = ps.length → bindArgs (PySem.W.fnX name qual params body scope [("__class__", cc)] .none kV doc pm an cdv ct) ⟨us, []⟩ = pure (ps.zip us))
    (hbody : ∀ (cc cda : Addr) (A : Around) (outer : List PySem.Env) (s : Shared) (H : Hp) (E : XK), SupAt (ncx (L2.CX P w) P w K mg base N (nfC name qual params body scope cc cda) f A outer s H E) D ar → Room k (A.deeper (envF (nfC name qual params body scope cc cda) f s.heap.objs.size)) →
      SndBA G (ncx (L2.CX P w) P w K mg base N (nfC name qual params body scope cc cda) f A outer s H E) (WXE E) io body body m) :
    FnA P w K mg base G (k + 1) f ps.length io (bodyF N.length io m) := by
  obtain ⟨oc, od, osl, kV, doc, pm, ct, an, cda, cc, cl, cld, csl, h1, h2, h3, h4⟩ := F.sup (w := w) (base := base) (N := N) g hs
  refine ⟨⟨_, ps, F.fi, F.fn, F.kp, ?_, rfl, fnC_of h1 h2 h3 S hio fun A outer s H E hr => hbody cc cda A outer s H E (h4 A outer s H E) hr⟩⟩
  exact .all (h kV doc pm an (.ref cda) ct cc)
end
theorem DefW.funD {K : PySem.W.Frag} {d : DefW} (e : fnZ K (d.ad K) = d.val) (c : d.ok K = true) : PySem.W.fnIn K (d.ad K) = true ∧ PySem.W.isFn K (.ref (d.ad K)) = true ∧ ∃ fd, FunD K d.name d.qual d.params d.body d.scope [] [] (d.ad K) fd := by
  obtain ⟨kp, c⟩ := He.ba c
  obtain ⟨fi, c⟩ := He.ba c
  obtain ⟨fn, c⟩ := He.ba c
  refine ⟨fi, fn, ?_⟩
  unfold fnZ at e
  cases q : K.lookup (d.ad K) with
  | none => rw [q] at c; cases c
  | some o =>
    obtain ⟨oc, od, dt, osl⟩ := o
    rw [q] at c e
    cases dt with
    | func fd =>
      obtain ⟨n1, n2, n3, n4, n5, n6, n7, n8, n9, n10, n11, n12, n13, n14, n15⟩ := fd
      have e2 : (some (n1, n2, n3, n4, n5, n6, n7.map (·.1), n8, n15) : FnY) = (some (d.name, d.qual, d.params, .stmts d.body, d.scope, mainGlobals, [], .none, builtinsNs) : FnY) := e
      simp only [Option.some.injEq, Prod.mk.injEq] at e2
      obtain ⟨h1, h2, h3, h4, h5, h6, h7, h8, h9⟩ := e2
      obtain rfl : n7 = [] := by simpa using h7
      subst h1 h2 h3 h4 h5 h6 h8 h9
      exact ⟨_, ⟨oc, od, _, n9, n10, n11, n12, n13, n14, osl, rfl, q, c, .inl ⟨rfl, rfl⟩, .inl rfl⟩, kp⟩
    | _ => cases c
section
variable {h : Hd} {K : PySem.W.Frag}
theorem SaysX.d (c : SaysX h K) : He.SaysD h.fa h.fn K := congrArg (fun z : AlX => z.1) c
theorem SaysX.fact (c : SaysX h K) (i : Nat) {f : He.Fa} (e : h.fa[i]? = some f) : f.ok K = true := c.d.fact i e
theorem SaysX.def_ (c : SaysX h K) (i : Nat) {d : He.DefD} (e : h.fn[i]? = some d) : ∃ fd, FunD K d.name d.qual d.params d.body d.scope (d.dvs K) (d.kws K) (He.fAd K d.at_) fd := c.d.def_ i e
theorem SaysX.both (c : SaysX h K) : ((h.fc.all fun d => d.ok h.fl K) && ((h.fw.all fun d => d.ok K) && h.ch.all fun t => t K)) = true := congrArg (fun z : AlX => z.2.1) c
theorem SaysX.ch (c : SaysX h K) (i : Nat) {t : PySem.W.Frag → Bool} (e : h.ch[i]? = some t) : t K = true := List.all_eq_true.mp (He.ba (He.ba c.both).2).2 t (List.mem_of_getElem? e)
theorem SaysX.fc (c : SaysX h K) (i : Nat) {d : DefC} (e : h.fc[i]? = some d) : FunC K h.fl d.name d.qual d.params d.body d.scope (He.ga K d.cls) (He.fAd K d.at_) := by
  have e1 : h.fc.map (fun d => fnY K d.at_) = h.fc.map DefC.val := congrArg (fun z : AlX => z.2.2.1) c
  have e2 : (h.fc.map fun d => fnY K d.at_)[i]? = (h.fc.map DefC.val)[i]? := by rw [e1]
  rw [List.getElem?_map, List.getElem?_map, e] at e2
  exact DefC.funC (Option.some.inj e2) (List.all_eq_true.mp (He.ba c.both).1 d (List.mem_of_getElem? e))
theorem SaysX.fw (c : SaysX h K) (i : Nat) {d : DefW} (e : h.fw[i]? = some d) : PySem.W.fnIn K (d.ad K) = true ∧ PySem.W.isFn K (.ref (d.ad K)) = true ∧ ∃ fd, FunD K d.name d.qual d.params d.body d.scope [] [] (d.ad K) fd := by
  have e1 : h.fw.map (fun d => fnZ K (d.ad K)) = h.fw.map DefW.val := congrArg (fun z : AlX => z.2.2.2) c
  have e2 : (h.fw.map fun d => fnZ K (d.ad K))[i]? = (h.fw.map DefW.val)[i]? := by rw [e1]
  rw [List.getElem?_map, List.getElem?_map, e] at e2
  exact DefW.funD (Option.some.inj e2) (List.all_eq_true.mp (He.ba (He.ba c.both).2).1 d (List.mem_of_getElem? e))
end
end Rz
namespace Rz
open PySem PySem.Spec PyProof.Rows L2
section
variable {G : Nat → Addr} {X : Cx} {W : WX} {a b c : Expr} {pos : Pos} {w : Wd} {st : Env} {σ : L2.St}
theorem chain_ok {g g' : D → D → Option D} {ml : M (List D)} {mc : M D} {Q : VK} (hl : SndF G X W [a, b] ml) (hc : SndD G X W c mc) (r : Rel X.K G w st σ) (p : Post X.K G (RD X.K G) w σ W (chainM g g' ml mc st) Q) :
    RunL X [a, b] σ w.H fun vs H2 => match vs with | [x, y] => rG X.K G g x y H2 fun z H3 => ∃ k, z = .bl k ∧ (if k = true then RunE X c σ H3 fun w' H4 => rG X.K G g' y w' H4 Q else Q (.bl false) H3) | _ => False := by
  refine Snd.bind (run1 := RunL X [a, b]) hl older_D r p fun ds us w1 st1 r1 s1 q1 p1 => ?_
  match us, ds, q1 with
  | [x, y], [d, d'], .cons b1 (.cons b2 .nil) =>
    have p2 : Post X.K G (RD X.K G) w1 σ W ((match g d d' with
      | some (.bl true) => bindM mc fun z => liftM (g' d' z)
      | some (.bl false) => pureM (.bl false)
      | _ => badM : M D) st1) Q := p1
    cases eg : g d d' with
    | none => rw [eg] at p2; exact p2.elim
    | some z =>
      rw [eg] at p2
      cases z with
      | bl k =>
        refine ⟨w1, d, d', .bl k, rfl, r1.ok, .fz b1, .fz b2, eg, fun u w2 g2 ok2 f2 => ?_⟩
        cases f2
        refine ⟨k, rfl, ?_⟩
        have r2 := r1.grow ok2 g2
        have s2 := g2.step r1.ok
        cases k with
        | false => exact iteF (p2 _ w2 r2 s2 (.bl false))
        | true =>
          refine iteT ?_
          refine Snd.bind (run1 := RunE X c) hc older_D r2 (Post.shift ok2 s2 older_D p2) fun z u w3 st3 r3 s3 q3 p3 => ?_
          have p4 : Post X.K G (RD X.K G) w3 σ W ((liftM (g' d' z) : M D) st3) Q := p3
          cases eg' : g' d' z with
          | none => rw [eg'] at p4; exact p4.elim
          | some z2 =>
            rw [eg'] at p4
            exact ⟨w3, d', z, z2, rfl, r3.ok, .fz ((b2.mono g2.f).mono s3.f), .fz q3, eg', giv_of r3 p4⟩
      | _ => exact p2.elim
  | [], [], .nil => exact p1.elim
  | [_], [_], .cons _ .nil => exact p1.elim
  | _ :: _ :: _ :: _, _ :: _ :: _ :: _, .cons _ (.cons _ (.cons _ _)) => exact p1.elim
theorem post_tst {K : PySem.W.Frag} {m : M D} {Q : Bool → Hp → Prop} (p : Post K G RT w σ W (tstM m st) Q) : Post K G (RD K G) w σ W (m st) fun x H => ∃ k, x = .bl k ∧ Q k H := by
  unfold tstM at p
  cases e : m st with
  | bad => rw [e] at p; exact p
  | exc x st' => rw [e] at p; exact p
  | ok v st' =>
    rw [e] at p
    intro u w' r' s' f
    cases v with
    | bl b =>
      cases (show Rep K G w'.F u (.bl b) from f)
      exact ⟨b, rfl, p b w' r' s' rfl⟩
    | _ => exact p.elim
theorem snd_tchain {op op' : CmpOp} {g g' : D → D → Option D} {ml : M (List D)} {mc : M D} (ho : OpS X G (compareOp op) g) (ho' : OpS X G (compareOp op') g') (hl : SndF G X W [a, b] ml) (hc : SndD G X W c mc)
    (hm : lastMarks [op, op'] [b, c] = false := by with_unfolding_all rfl) : SndT G X W (.Compare a [op, op'] [b, c] pos) (tstM (chainM g g' ml mc)) := by
  intro w st σ Q r p
  exact RunT.of (pt_chain ho ho' pe_run pe_run pe_run hm) (chain_ok hl hc r (post_tst p))
end
end Rz
namespace Rz
open PySem PySem.Spec PyProof.Rows L2
section
variable {α : Type} (xs : List α)
theorem cutL_to (n : Nat) : cutL xs none (some (n : Int)) = xs.take n := by
  unfold cutL
  rw [HT.sIx_nat, HT.sIx_none, List.drop_zero, Nat.sub_zero]
  by_cases h : n ≤ xs.length
  · rw [Nat.min_eq_left h]
  · rw [Nat.min_eq_right (by omega), List.take_of_length_le (Nat.le_refl _), List.take_of_length_le (by omega)]
theorem cutL_from (n : Nat) : cutL xs (some (n : Int)) none = xs.drop n := by
  unfold cutL
  rw [HT.sIx_nat, HT.sIx_none]
  by_cases h : n ≤ xs.length
  · rw [Nat.min_eq_left h, List.take_of_length_le (by simp)]
  · rw [Nat.min_eq_right (by omega), List.drop_of_length_le (Nat.le_refl _), List.drop_of_length_le (by omega), List.take_nil]
theorem cutL_fromto (a b : Nat) : cutL xs (some (a : Int)) (some (b : Int)) = (xs.drop a).take (b - a) := by
  unfold cutL
  rw [HT.sIx_nat, HT.sIx_nat]
  by_cases h : a ≤ xs.length
  · rw [Nat.min_eq_left h]
    by_cases h2 : b ≤ xs.length
    · rw [Nat.min_eq_left h2]
    · rw [Nat.min_eq_right (by omega), List.take_of_length_le (by simp), List.take_of_length_le (by simp; omega)]
  · rw [Nat.min_eq_right (show xs.length ≤ a by omega), List.drop_of_length_le (Nat.le_refl _), List.drop_of_length_le (show xs.length ≤ a by omega), List.take_nil, List.take_nil]
theorem cutL_last : cutL xs (some (-1)) none = xs.drop (xs.length - 1) := by
  unfold cutL
  rw [HT.sIx_none]
  have : HT.sIx xs.length 0 (some (-1)) = xs.length - 1 := by
    show (if (-1 : Int) < 0 then ((-1 : Int) + (xs.length : Int)).toNat else min (-1 : Int).toNat xs.length) = _
    rw [if_pos (by omega)]; omega
  rw [this, List.take_of_length_le (by simp)]
theorem atI_nat' (n : Nat) : atI xs (n : Int) = xs[n]? := by
  unfold atI ixN
  rw [if_pos (by omega)]
  by_cases h : n < xs.length
  · rw [if_pos (by omega)]; simp
  · rw [if_neg (by omega)]; simp; omega
theorem atI_last' : atI xs (-1) = xs.getLast? := by
  unfold atI ixN
  rw [if_neg (by omega)]
  cases xs with
  | nil => simp
  | cons x r =>
    rw [if_pos (by simp; omega)]
    have : ((-1 : Int) + ((x :: r).length : Int)).toNat = (x :: r).length - 1 := by simp; omega
    rw [Option.bind_some, this, List.getLast?_eq_getElem?]
end
section
variable {α β : Type} {st st' : Env}
@[simp] theorem pureM_ap (a : α) (st : Env) : pureM a st = .ok a st := rfl
@[simp] theorem badM_ap (st : Env) : (badM : M α) st = .bad := rfl
@[simp] theorem bind_ok (a : α) (st : Env) (f : α → M β) : (Out.ok a st).bind f = f a st := rfl
@[simp] theorem bind_exc (x : Ex) (st : Env) (f : α → M β) : (Out.exc x st : Out α).bind f = .exc x st := rfl
@[simp] theorem bind_bad (f : α → M β) : (Out.bad : Out α).bind f = .bad := rfl
@[simp] theorem bindM_ap (m : M α) (f : α → M β) (st : Env) : bindM m f st = (m st).bind f := rfl
@[simp] theorem liftM_some (a : α) (st : Env) : (liftM (some a) : M α) st = .ok a st := rfl
@[simp] theorem liftM_none (st : Env) : (liftM (none : Option α)) st = .bad := rfl
def seqO (o : Out Fl) (b : M Fl) : Out Fl := match o with
  | .ok .nx st' => b st'
  | o => o
@[simp] theorem seqM_ap (a b : M Fl) (st : Env) : seqM a b st = seqO (a st) b := by
  unfold seqM seqO
  cases a st with
  | ok f s => cases f <;> rfl
  | exc x s => rfl
  | bad => rfl
@[simp] theorem seqO_nx (st : Env) (b : M Fl) : seqO (.ok .nx st) b = b st := rfl
@[simp] theorem seqO_rt (v : Sl) (st : Env) (b : M Fl) : seqO (.ok (.rt v) st) b = .ok (.rt v) st := rfl
@[simp] theorem seqO_bk (st : Env) (b : M Fl) : seqO (.ok .bk st) b = .ok .bk st := rfl
@[simp] theorem seqO_ct (st : Env) (b : M Fl) : seqO (.ok .ct st) b = .ok .ct st := rfl
@[simp] theorem seqO_exc (x : Ex) (st : Env) (b : M Fl) : seqO (.exc x st) b = .exc x st := rfl
@[simp] theorem seqO_bad (b : M Fl) : seqO .bad b = .bad := rfl
@[simp] theorem setM_ap (i : Nat) (m : M D) (st : Env) : setM i m st = (m st).bind fun d s => .ok .nx (s.set i (.fz d)) := rfl
@[simp] theorem putM_ap (i : Nat) (m : M Sl) (st : Env) : putM i m st = (m st).bind fun d s => .ok .nx (s.set i d) := rfl
@[simp] theorem retM_ap (m : M Sl) (st : Env) : retM m st = (m st).bind fun v s => .ok (.rt v) s := rfl
@[simp] theorem retD_ap (m : M D) (st : Env) : retD m st = (m st).bind fun v s => .ok (.rt (.fz v)) s := rfl
@[simp] theorem retN_ap (st : Env) : retN st = .ok (.rt (.fz .non)) st := rfl
@[simp] theorem drpM_ap (m : M α) (st : Env) : drpM m st = (m st).bind fun _ s => .ok .nx s := rfl
@[simp] theorem nxM_ap (st : Env) : nxM st = .ok .nx st := rfl
@[simp] theorem iteM_ap (c : M Bool) (a b : M α) (st : Env) : iteM c a b st = (c st).bind fun x => if x = true then a else b := rfl
@[simp] theorem andM_ap (a b : M Bool) (st : Env) : andM a b st = (a st).bind fun x => if x = true then b else pureM false := rfl
@[simp] theorem orM_ap (a b : M Bool) (st : Env) : orM a b st = (a st).bind fun x => if x = true then pureM true else b := rfl
@[simp] theorem notM_ap (a : M Bool) (st : Env) : notM a st = (a st).bind fun x => pureM (!x) := rfl
def tstO (o : Out D) : Out Bool := match o with
  | .ok (.bl b) st' => .ok b st'
  | .ok _ _ => .bad
  | .exc x st' => .exc x st'
  | .bad => .bad
@[simp] theorem tstM_ap (m : M D) (st : Env) : tstM m st = tstO (m st) := by
  unfold tstM tstO
  cases m st with
  | ok d s => cases d <;> rfl
  | exc x s => rfl
  | bad => rfl
@[simp] theorem tstO_bl (b : Bool) (st : Env) : tstO (.ok (.bl b) st) = .ok b st := rfl
@[simp] theorem tstO_bad : tstO .bad = .bad := rfl
def frzO (o : Out Sl) : Out D := match o with
  | .ok .un _ => .bad
  | .ok v st' => .ok v.toD st'
  | .exc x st' => .exc x st'
  | .bad => .bad
@[simp] theorem frzM_ap (m : M Sl) (st : Env) : frzM m st = frzO (m st) := by
  unfold frzM frzO
  cases m st with
  | ok d s => cases d <;> rfl
  | exc x s => rfl
  | bad => rfl
@[simp] theorem frzO_fz (d : D) (st : Env) : frzO (.ok (.fz d) st) = .ok d st := rfl
@[simp] theorem frzO_ml (d : List D) (st : Env) : frzO (.ok (.ml d) st) = .ok (.lst d) st := rfl
@[simp] theorem frzO_md (d : List (DK × D)) (st : Env) : frzO (.ok (.md d) st) = .ok (.dct d) st := rfl
@[simp] theorem frzO_mi (c : Nat) (d : List (Str × D)) (st : Env) : frzO (.ok (.mi c d) st) = .ok (.ins c d) st := rfl
@[simp] theorem frzO_exc (x : Ex) (st : Env) : frzO (.exc x st) = .exc x st := rfl
@[simp] theorem frzO_bad : frzO .bad = .bad := rfl
def fzO (o : Out D) : Out Sl := match o with
  | .ok d st' => .ok (.fz d) st'
  | .exc x st' => .exc x st'
  | .bad => .bad
@[simp] theorem fzM_ap (m : M D) (st : Env) : fzM m st = fzO (m st) := by
  unfold fzM fzO
  cases m st <;> rfl
@[simp] theorem fzO_ok (d : D) (st : Env) : fzO (.ok d st) = .ok (.fz d) st := rfl
@[simp] theorem fzO_bad : fzO .bad = .bad := rfl
def nameO (i : Nat) (st : Env) : Option Sl → Out D
  | some .un => .bad
  | some (.fz d) => .ok d st
  | some s => .ok s.toD (st.set i (.fz s.toD))
  | none => .bad
@[simp] theorem nameM_ap (i : Nat) (st : Env) : nameM i st = nameO i st st[i]? := by
  unfold nameM nameO
  cases st[i]? with
  | none => rfl
  | some s => cases s <;> rfl
@[simp] theorem nameO_fz (i : Nat) (st : Env) (d : D) : nameO i st (some (.fz d)) = .ok d st := rfl
@[simp] theorem nameO_ml (i : Nat) (st : Env) (d : List D) : nameO i st (some (.ml d)) = .ok (.lst d) (st.set i (.fz (.lst d))) := rfl
@[simp] theorem nameO_md (i : Nat) (st : Env) (d : List (DK × D)) : nameO i st (some (.md d)) = .ok (.dct d) (st.set i (.fz (.dct d))) := rfl
@[simp] theorem nameO_mi (i : Nat) (st : Env) (c : Nat) (d : List (Str × D)) : nameO i st (some (.mi c d)) = .ok (.ins c d) (st.set i (.fz (.ins c d))) := rfl
def seeO (st : Env) : Option Sl → Out D
  | some .un => .bad
  | some s => .ok s.toD st
  | none => .bad
@[simp] theorem seeO_fz (st : Env) (d : D) : seeO st (some (.fz d)) = .ok d st := rfl
@[simp] theorem seeO_ml (st : Env) (d : List D) : seeO st (some (.ml d)) = .ok (.lst d) st := rfl
@[simp] theorem seeO_md (st : Env) (d : List (DK × D)) : seeO st (some (.md d)) = .ok (.dct d) st := rfl
@[simp] theorem seeO_mi (st : Env) (c : Nat) (d : List (Str × D)) : seeO st (some (.mi c d)) = .ok (.ins c d) st := rfl
@[simp] theorem seeM_ap (i : Nat) (st : Env) : seeM i st = seeO st st[i]? := by
  unfold seeM seeO
  cases st[i]? with
  | none => rfl
  | some s => cases s <;> rfl
def consO (i : Nat) (ml : M (List D)) (st : Env) : Option Sl → Out (List D)
  | some .un => .bad
  | some _ => (ml st).bind fun ds => bindM (seeM i) fun d => pureM (d :: ds)
  | none => .bad
@[simp] theorem consN_ap (i : Nat) (ml : M (List D)) (st : Env) : consN i ml st = consO i ml st st[i]? := by
  unfold consN consO
  cases st[i]? with
  | none => rfl
  | some s => cases s <;> rfl
@[simp] theorem consO_fz (i : Nat) (ml : M (List D)) (st : Env) (d : D) : consO i ml st (some (.fz d)) = (ml st).bind fun ds => bindM (seeM i) fun d => pureM (d :: ds) := rfl
@[simp] theorem consO_ml (i : Nat) (ml : M (List D)) (st : Env) (d : List D) : consO i ml st (some (.ml d)) = (ml st).bind fun ds => bindM (seeM i) fun d => pureM (d :: ds) := rfl
@[simp] theorem consO_md (i : Nat) (ml : M (List D)) (st : Env) (d : List (DK × D)) : consO i ml st (some (.md d)) = (ml st).bind fun ds => bindM (seeM i) fun d => pureM (d :: ds) := rfl
@[simp] theorem consO_mi (i : Nat) (ml : M (List D)) (st : Env) (c : Nat) (d : List (Str × D)) : consO i ml st (some (.mi c d)) = (ml st).bind fun ds => bindM (seeM i) fun d => pureM (d :: ds) := rfl
@[simp] theorem nilL_ap (st : Env) : nilL st = .ok [] st := rfl
@[simp] theorem consL_ap (m : M D) (ml : M (List D)) (st : Env) : consL m ml st = (m st).bind fun d => bindM ml fun ds => pureM (d :: ds) := rfl
@[simp] theorem op2M_ap (g : D → D → Option D) (ml : M (List D)) (st : Env) : op2M g ml st = (ml st).bind fun ds => match ds with
  | [x, y] => liftM (g x y)
  | _ => badM := rfl
@[simp] theorem op1M_ap (g : D → Option D) (ml : M (List D)) (st : Env) : op1M g ml st = (ml st).bind fun ds => match ds with
  | [x] => liftM (g x)
  | _ => badM := rfl
@[simp] theorem fnM_ap (g : List D → Option D) (ml : M (List D)) (st : Env) : fnM g ml st = (ml st).bind fun ds => liftM (g ds) := rfl
@[simp] theorem fnV_ap (g : List D → Option Sl) (ml : M (List D)) (st : Env) : fnV g ml st = (ml st).bind fun ds => liftM (g ds) := rfl
@[simp] theorem truM_ap (m : M D) (st : Env) : truM m st = (m st).bind fun d => liftM (truD d) := rfl
@[simp] theorem truD_bl (b : Bool) : truD (.bl b) = some b := rfl
@[simp] theorem blD_ap (m : M D) (st : Env) : blD m st = (m st).bind fun d => match d with
  | .bl b => pureM b
  | _ => badM := rfl
@[simp] theorem andV_ap (m m' : M D) (st : Env) : andV m m' st = (blD m st).bind fun x => if x = true then m' else pureM (.bl false) := rfl
@[simp] theorem orV_ap (m m' : M D) (st : Env) : orV m m' st = (blD m st).bind fun x => if x = true then pureM (.bl true) else m' := rfl
@[simp] theorem notV_ap (m : M D) (st : Env) : notV m st = (blD m st).bind fun x => pureM (.bl (!x)) := rfl
@[simp] theorem chainM_ap (g g' : D → D → Option D) (ml : M (List D)) (mc : M D) (st : Env) : chainM g g' ml mc st = (ml st).bind fun ds => match ds with
  | [x, y] => (match g x y with
    | some (.bl true) => bindM mc fun z => liftM (g' y z)
    | some (.bl false) => pureM (.bl false)
    | _ => badM)
  | _ => badM := rfl
@[simp] theorem sliceM_ap (m : M D) (ml mh : M (Option Int)) (st : Env) : sliceM m ml mh st = (m st).bind fun d => bindM ml fun lo => bindM mh fun hi => liftM (cutD d lo hi) := rfl
@[simp] theorem somO_ap (m : M D) (st : Env) : somO m st = (m st).bind fun d => match d with
  | .int i => pureM (some i)
  | _ => badM := rfl
@[simp] theorem tupM_ap (ml : M (List D)) (st : Env) : tupM ml st = (ml st).bind fun ds => liftM ((frzL ds).map .tup) := rfl
@[simp] theorem lstM_ap (ml : M (List D)) (st : Env) : lstM ml st = (ml st).bind fun ds => liftM ((frzL ds).map .ml) := rfl
theorem frzL_ok {ds : List D} (h : ds.length ≤ 16777216) : frzL ds = some ds := if_pos h
@[simp] theorem frzL_nil : frzL [] = some [] := rfl
@[simp] theorem frzL_cons (d : D) (ds : List D) : frzL (d :: ds) = if ds.length + 1 ≤ 16777216 then some (d :: ds) else none := rfl
@[simp] theorem itM_ap (m : M D) (st : Env) : itM m st = (m st).bind fun d => liftM (itD d) := rfl
theorem rng1M_ap (ml : M (List D)) (st : Env) : rng1M ml st = (ml st).bind fun ds => liftM (rng1 ds) := by
  unfold rng1M
  rw [bindM_ap]
theorem rng2M_ap (ml : M (List D)) (st : Env) : rng2M ml st = (ml st).bind fun ds => liftM (rng2 ds) := by
  unfold rng2M
  rw [bindM_ap]
@[simp] theorem enumM_ap (m : M D) (st : Env) : enumM m st = (m st).bind fun d => liftM ((srcD d).map (enumL 0)) := rfl
@[simp] theorem zipM_ap (m m' : M D) (st : Env) : zipM m m' st = (m st).bind fun d => bindM m' fun d' => liftM ((srcD d).bind fun xs => (srcD d').map fun ys => zipL xs ys) := rfl
@[simp] theorem itemsM_ap (m : M D) (st : Env) : itemsM m st = (m st).bind fun d => liftM (itemsD d) := rfl
@[simp] theorem valsM_ap (m : M D) (st : Env) : valsM m st = (m st).bind fun d => liftM (valsD d) := rfl
@[simp] theorem joinM_ap (m m' : M D) (st : Env) : joinM m m' st = (m st).bind fun a => match a with
  | .str _ => bindM m' fun d => liftM (dJoin a d)
  | _ => badM := rfl
@[simp] theorem consV_ap (m : M Sl) (ml : M (List Sl)) (st : Env) : consV m ml st = (m st).bind fun s => bindM ml fun ss => pureM (s :: ss) := rfl
@[simp] theorem nilV_ap (st : Env) : nilV st = .ok [] st := rfl
@[simp] theorem putsM_ap (is : List Nat) (ml : M (List Sl)) (st : Env) : putsM is ml st = (ml st).bind fun ss st => if ss.length = is.length then .ok .nx (putsE st is ss) else .bad := rfl
@[simp] theorem putsE_cons (st : Env) (i : Nat) (is : List Nat) (s : Sl) (ss : List Sl) : putsE st (i :: is) (s :: ss) = putsE (st.set i s) is ss := rfl
@[simp] theorem putsE_nil (st : Env) : putsE st [] [] = st := rfl
@[simp] theorem forM_ap (mi : M (List D)) (g : D → M Unit) (mb : M Fl) (st : Env) : forM' mi g mb st = (mi st).bind fun ds => forL g mb ds := rfl
@[simp] theorem tgN_ap (i : Nat) (d : D) (st : Env) : tgN i d st = .ok () (st.set i (.fz d)) := rfl
@[simp] theorem tgNil_ap (st : Env) : tgNil [] st = .ok () st := rfl
@[simp] theorem tgCons_ap (g : D → M Unit) (gs : List D → M Unit) (d : D) (ds : List D) (st : Env) : tgCons g gs (d :: ds) st = (g d st).bind fun _ => gs ds := rfl
@[simp] theorem tgT_apl (n : Nat) (gs : List D → M Unit) (ds : List D) (st : Env) : tgT n gs (.lst ds) st = (if ds.length = n then gs ds else badM) st := rfl
@[simp] theorem tgT_ap (n : Nat) (gs : List D → M Unit) (ds : List D) (st : Env) : tgT n gs (.tup ds) st = (if ds.length = n then gs ds else badM) st := rfl
def retO' (i : Nat) (st : Env) : Option Sl → Out Fl
  | some .un => .bad
  | some s => .ok (.rt s) (st.set i .un)
  | none => .bad
@[simp] theorem retO_ap (i : Nat) (st : Env) : retO i st = retO' i st st[i]? := by
  unfold retO retO'
  cases st[i]? with
  | none => rfl
  | some s => cases s <;> rfl
@[simp] theorem retO'_fz (i : Nat) (st : Env) (d : D) : retO' i st (some (.fz d)) = .ok (.rt (.fz d)) (st.set i .un) := rfl
@[simp] theorem retO'_ml (i : Nat) (st : Env) (d : List D) : retO' i st (some (.ml d)) = .ok (.rt (.ml d)) (st.set i .un) := rfl
@[simp] theorem retO'_md (i : Nat) (st : Env) (d : List (DK × D)) : retO' i st (some (.md d)) = .ok (.rt (.md d)) (st.set i .un) := rfl
@[simp] theorem consP_ap (mk mv : M D) (ml : M (List (DK × D))) (st : Env) : consP mk mv ml st = (mk st).bind fun k => bindM mv fun v => bindM ml fun ks => match keyD k with
  | some k => pureM ((k, v) :: ks)
  | none => badM := rfl
@[simp] theorem dispM_ap (ml : M (List (DK × D))) (st : Env) : dispM ml st = (ml st).bind fun ks => if ks.length ≤ 15 then pureM (.md (mergeD [] ks)) else badM := rfl
@[simp] theorem keyD_str (s : List Nat) : keyD (.str s) = some (.str s) := rfl
@[simp] theorem keyD_int (s : Int) : keyD (.int s) = some (.int s) := rfl
@[simp] theorem srcD_str (s : List Nat) : srcD (.str s) = some (s.map fun c => .str [c]) := rfl
@[simp] theorem srcD_lst (s : List D) : srcD (.lst s) = some s := rfl
@[simp] theorem srcD_tup (s : List D) : srcD (.tup s) = some s := rfl
@[simp] theorem srcD_scr (s : List Int) : srcD (.scr s) = some (s.map .int) := rfl
@[simp] theorem itD_str (s : List Nat) : itD (.str s) = some (s.map fun c => .str [c]) := rfl
@[simp] theorem itD_lst (s : List D) : itD (.lst s) = some s := rfl
@[simp] theorem itD_tup (s : List D) : itD (.tup s) = some s := rfl
@[simp] theorem itD_dct (s : List (DK × D)) : itD (.dct s) = some (s.map fun kv => kD kv.1) := rfl
@[simp] theorem itemsD_dct (s : List (DK × D)) : itemsD (.dct s) = some (itemsL s) := rfl
@[simp] theorem valsD_dct (s : List (DK × D)) : valsD (.dct s) = some (s.map (·.2)) := rfl
def appO (i : Nat) (m : M D) (st : Env) : Option Sl → Out D
  | some (.ml _) => (m st).bind fun d s => match s[i]? with
    | some (.ml xs) => if xs.length < 16777216 then .ok .non (s.set i (.ml (xs ++ [d]))) else .bad
    | _ => .bad
  | _ => .bad
@[simp] theorem appM_ap (i : Nat) (m : M D) (st : Env) : appM i m st = appO i m st st[i]? := by
  unfold appM appO
  cases st[i]? with
  | none => rfl
  | some s => cases s <;> rfl
@[simp] theorem appO_ml (i : Nat) (m : M D) (st : Env) (xs : List D) : appO i m st (some (.ml xs)) = (m st).bind fun d s => match s[i]? with
    | some (.ml xs) => if xs.length < 16777216 then .ok .non (s.set i (.ml (xs ++ [d]))) else .bad
    | _ => .bad := rfl
def extO (i : Nat) (m : M D) (st : Env) : Option Sl → Out D
  | some (.ml _) => (m st).bind fun d s => match s[i]? with
    | some (.ml xs) => (match catD xs d with
      | some zs => .ok .non (s.set i (.ml zs))
      | none => .bad)
    | _ => .bad
  | _ => .bad
@[simp] theorem extM_ap (i : Nat) (m : M D) (st : Env) : extM i m st = extO i m st st[i]? := by
  unfold extM extO
  cases st[i]? with
  | none => rfl
  | some s => cases s <;> rfl
@[simp] theorem extO_ml (i : Nat) (m : M D) (st : Env) (xs : List D) : extO i m st (some (.ml xs)) = (m st).bind fun d s => match s[i]? with
    | some (.ml xs) => (match catD xs d with
      | some zs => .ok .non (s.set i (.ml zs))
      | none => .bad)
    | _ => .bad := rfl
def augO (i : Nat) (g : D → D → Option D) (m : M D) (st : Env) : Option Sl → Out Fl
  | some (.fz (.int n)) => (m st).bind fun d => match d with
    | .int k => (match g (.int n) (.int k) with
      | some z => fun s => .ok .nx (s.set i (.fz z))
      | none => badM)
    | _ => badM
  | _ => .bad
@[simp] theorem augM_ap (i : Nat) (g : D → D → Option D) (m : M D) (st : Env) : augM i g m st = augO i g m st st[i]? := by
  unfold augM augO
  cases st[i]? with
  | none => rfl
  | some s => cases s with
    | fz d => cases d <;> rfl
    | _ => rfl
@[simp] theorem augO_int (i : Nat) (g : D → D → Option D) (m : M D) (st : Env) (n : Int) : augO i g m st (some (.fz (.int n))) = (m st).bind fun d => match d with
    | .int k => (match g (.int n) (.int k) with
      | some z => fun s => .ok .nx (s.set i (.fz z))
      | none => badM)
    | _ => badM := rfl
def subO (i : Nat) (v ix : D) (st : Env) : Option Sl → Out Unit
  | some (.ml xs) => (match ix with
    | .int k => (match ixN xs.length k with
      | some j => .ok () (st.set i (.ml (xs.set j v)))
      | none => .bad)
    | _ => .bad)
  | some (.md kvs) => (match keyD ix with
    | some k => if kvs.length < 16777216 then .ok () (st.set i (.md (putD kvs k v))) else .bad
    | none => .bad)
  | _ => .bad
@[simp] theorem subM_ap (i : Nat) (mi : M D) (v : D) (st : Env) : subM i mi v st = (seeO st st[i]?).bind fun _ => bindM mi fun ix s => subO i v ix s s[i]? := by
  unfold subM subO
  rw [bindM_ap, seeM_ap]
  all_goals rfl
@[simp] theorem subO_ml (i : Nat) (v : D) (k : Int) (st : Env) (xs : List D) : subO i v (.int k) st (some (.ml xs)) = (match ixN xs.length k with
      | some j => .ok () (st.set i (.ml (xs.set j v)))
      | none => .bad) := rfl
@[simp] theorem subO_md (i : Nat) (v : D) (k : D) (st : Env) (kvs : List (DK × D)) : subO i v k st (some (.md kvs)) = (match keyD k with
    | some k => if kvs.length < 16777216 then .ok () (st.set i (.md (putD kvs k v))) else .bad
    | none => .bad) := rfl
@[simp] theorem nilA_ap (st : Env) : nilA st = .ok [] st := rfl
@[simp] theorem consA_ap (m : M D) (ml : M (List Ag)) (st : Env) : consA m ml st = (m st).bind fun d => bindM ml fun as => pureM (.d d :: as) := rfl
def conO (i : Nat) (ml : M (List Ag)) (st : Env) : Option Sl → Out (List Ag)
  | some s => if ownd s = true then (ml st).bind fun as => pureM (.io i :: as) else .bad
  | none => .bad
@[simp] theorem consIO_ap (i : Nat) (ml : M (List Ag)) (st : Env) : consIO i ml st = conO i ml st st[i]? := by
  unfold consIO conO
  cases st[i]? <;> rfl
@[simp] theorem conO_ml (i : Nat) (ml : M (List Ag)) (st : Env) (xs : List D) : conO i ml st (some (.ml xs)) = (ml st).bind fun as => pureM (.io i :: as) := rfl
@[simp] theorem conO_md (i : Nat) (ml : M (List Ag)) (st : Env) (xs : List (DK × D)) : conO i ml st (some (.md xs)) = (ml st).bind fun as => pureM (.io i :: as) := rfl
@[simp] theorem conO_mi (i : Nat) (ml : M (List Ag)) (st : Env) (c : Nat) (xs : List (Str × D)) : conO i ml st (some (.mi c xs)) = (ml st).bind fun as => pureM (.io i :: as) := rfl
def callO (f : Env → Res) (io : List Nat) (as : List Ag) (st : Env) : Out Sl := if agsOk st as io = true then (match f (as.map (slOf st)) with
    | .ret v o => if o.length = io.length then .ok v (backs st as io o) else .bad
    | .exc x o => if o.length = io.length then .exc x (backs st as io o) else .bad
    | .bad => .bad) else .bad
@[simp] theorem callM_ap (f : Env → Res) (io : List Nat) (ma : M (List Ag)) (st : Env) : callM f io ma st = (ma st).bind fun as s => callO f io as s := by
  unfold callM
  cases ma st <;> rfl
theorem agsOk_d (st : Env) (ds : List D) (io : List Nat) : agsOk st (ds.map Ag.d) io = true := by
  unfold agsOk
  rw [List.all_eq_true]
  intro i hi
  rw [List.getElem?_map]
  cases ds[i]? <;> rfl
theorem backs_d (st : Env) (ds : List D) : ∀ (io : List Nat) (o : Env), backs st (ds.map Ag.d) io o = st
  | [], _ => by simp [backs]
  | _ :: _, [] => by simp [backs]
  | i :: io, s :: o => by
    unfold backs
    rw [List.getElem?_map]
    cases ds[i]? <;> exact backs_d st ds io o
theorem callO_d {f : Env → Res} {io : List Nat} {ds : List D} {st : Env} {v : Sl} {o : Env} (h : f (ds.map .fz) = .ret v o) (ho : o.length = io.length) : callO f io (ds.map Ag.d) st = .ok v st := by
  unfold callO
  rw [if_pos (agsOk_d st ds io), List.map_map]
  have : (slOf st ∘ Ag.d) = Sl.fz := rfl
  rw [this, h]
  dsimp only
  rw [if_pos ho, backs_d]
theorem callO_d1 {f : Env → Res} {io : List Nat} {a : D} {st : Env} {v : Sl} {o : Env} (h : f [.fz a] = .ret v o) (ho : o.length = io.length) : callO f io [.d a] st = .ok v st := callO_d (ds := [a]) h ho
theorem callO_d2 {f : Env → Res} {io : List Nat} {a b : D} {st : Env} {v : Sl} {o : Env} (h : f [.fz a, .fz b] = .ret v o) (ho : o.length = io.length) : callO f io [.d a, .d b] st = .ok v st := callO_d (ds := [a, b]) h ho
theorem callO_d3 {f : Env → Res} {io : List Nat} {a b c : D} {st : Env} {v : Sl} {o : Env} (h : f [.fz a, .fz b, .fz c] = .ret v o) (ho : o.length = io.length) : callO f io [.d a, .d b, .d c] st = .ok v st := callO_d (ds := [a, b, c]) h ho
theorem callO_d4 {f : Env → Res} {io : List Nat} {a b c d : D} {st : Env} {v : Sl} {o : Env} (h : f [.fz a, .fz b, .fz c, .fz d] = .ret v o) (ho : o.length = io.length) : callO f io [.d a, .d b, .d c, .d d] st = .ok v st := callO_d (ds := [a, b, c, d]) h ho
def bodyO (io : List Nat) (o : Out Fl) : Res := match o with
  | .ok (.rt v) st => .ret v (outs io st)
  | .ok .nx st => .ret (.fz .non) (outs io st)
  | .ok _ _ => .bad
  | .exc x st => .exc x (outs io st)
  | .bad => .bad
@[simp] theorem bodyF_ap (n : Nat) (io : List Nat) (m : M Fl) (args : Env) : bodyF n io m args = bodyO io (m (args ++ List.replicate (n - args.length) .un)) := by
  unfold bodyF bodyO
  cases m (args ++ List.replicate (n - args.length) .un) with
  | ok f s => cases f <;> rfl
  | exc x s => rfl
  | bad => rfl
@[simp] theorem bodyO_rt (io : List Nat) (v : Sl) (st : Env) : bodyO io (.ok (.rt v) st) = .ret v (outs io st) := rfl
@[simp] theorem bodyO_nx (io : List Nat) (st : Env) : bodyO io (.ok .nx st) = .ret (.fz .non) (outs io st) := rfl
@[simp] theorem outs_nil (st : Env) : outs [] st = [] := rfl
@[simp] theorem outs_cons (i : Nat) (io : List Nat) (st : Env) : outs (i :: io) st = (st[i]?).getD .un :: outs io st := rfl
end
section
theorem forL_nil {g : D → M Unit} {mb : M Fl} {st : Env} : forL g mb [] st = .ok .nx st := rfl
def forK (g : D → M Unit) (mb : M Fl) (ds : List D) : Out Fl → Out Fl
  | .ok .nx st => forL g mb ds st
  | .ok .ct st => forL g mb ds st
  | .ok .bk st => .ok .nx st
  | o => o
theorem forL_cons {g : D → M Unit} {mb : M Fl} {d : D} {ds : List D} {st : Env} : forL g mb (d :: ds) st = (g d st).bind fun _ s => forK g mb ds (mb s) := by
  show (g d st).bind _ = _
  congr 1
theorem forL_ind {g : D → M Unit} {mb : M Fl} (I : List D → Env → Prop) (step : ∀ d ds st, I (d :: ds) st → ∃ s1 s2, g d st = .ok () s1 ∧ (mb s1 = .ok .nx s2 ∨ mb s1 = .ok .ct s2) ∧ I ds s2) :
    ∀ ds st, I ds st → ∃ st', forL g mb ds st = .ok .nx st' ∧ I [] st'
  | [], st, h => ⟨st, rfl, h⟩
  | d :: ds, st, h => by
    obtain ⟨s1, s2, h1, h2, h3⟩ := step d ds st h
    obtain ⟨st', h4, h5⟩ := forL_ind I step ds s2 h3
    refine ⟨st', ?_, h5⟩
    rw [forL_cons, h1, bind_ok]
    rcases h2 with h2 | h2 <;> (rw [h2]; exact h4)
theorem forL_ret {g : D → M Unit} {mb : M Fl} (I : List D → Env → Prop) (R : Sl → Env → Prop)
    (step : ∀ d ds st, I (d :: ds) st → ∃ s1 s2, g d st = .ok () s1 ∧ (((mb s1 = .ok .nx s2 ∨ mb s1 = .ok .ct s2) ∧ I ds s2) ∨ ∃ v, mb s1 = .ok (.rt v) s2 ∧ R v s2)) :
    ∀ ds st, I ds st → ∃ st', (forL g mb ds st = .ok .nx st' ∧ I [] st') ∨ ∃ v, forL g mb ds st = .ok (.rt v) st' ∧ R v st'
  | [], st, h => ⟨st, .inl ⟨rfl, h⟩⟩
  | d :: ds, st, h => by
    obtain ⟨s1, s2, h1, h2⟩ := step d ds st h
    rcases h2 with ⟨h2, h3⟩ | ⟨v, h2, h3⟩
    · obtain ⟨st', h4⟩ := forL_ret I R step ds s2 h3
      refine ⟨st', ?_⟩
      have e : forL g mb (d :: ds) st = forL g mb ds s2 := by
        rw [forL_cons, h1, bind_ok]
        rcases h2 with h2 | h2 <;> rw [h2] <;> rfl
      rw [e]; exact h4
    · refine ⟨s2, .inr ⟨v, ?_, h3⟩⟩
      rw [forL_cons, h1, bind_ok, h2]; rfl
theorem forL_fold {α : Type} {g : D → M Unit} {mb : M Fl} (E : α → Env) (f : α → D → α) (P : α → Prop) : ∀ (ds : List D) (a : α), P a → (∀ a d, d ∈ ds → P a → (∃ s1, g d (E a) = .ok () s1 ∧ (mb s1 = .ok .nx (E (f a d)) ∨ mb s1 = .ok .ct (E (f a d)))) ∧ P (f a d)) →
    forL g mb ds (E a) = .ok .nx (E (ds.foldl f a)) ∧ P (ds.foldl f a)
  | [], a, p, _ => ⟨rfl, p⟩
  | d :: ds, a, p, h => by
    obtain ⟨⟨s1, h1, h2⟩, h3⟩ := h a d (.head _) p
    obtain ⟨h4, h5⟩ := forL_fold E f P ds (f a d) h3 fun a d hd => h a d (.tail _ hd)
    refine ⟨?_, h5⟩
    rw [forL_cons, h1, bind_ok]
    rcases h2 with h2 | h2 <;> (rw [h2]; exact h4)
end
section
theorem lcL_nil {vs : List Nat} {g : D → M Unit} {mt : M Bool} {me : M D} {acc : List D} {st : Env} : lcL vs g mt me [] acc st = .ok acc st := rfl
theorem nox_eq {α : Type} {m : M α} {st st' : Env} {a : α} (h : m st = .ok a st') : nox m st = .ok a st' := nox_ok h
theorem lcL_map {vs : List Nat} {g : D → M Unit} {mt : M Bool} {me : M D} {S : Env} (p : D → Bool) (f : D → D) : ∀ (ds acc : List D), acc.length + ds.length ≤ 16777216 →
    (∀ d ∈ ds, ∃ s1 s2, g d S = .ok () s1 ∧ mt s1 = .ok (p d) s2 ∧ (p d = false → wipeE s2 vs = S) ∧ (p d = true → ∃ s3, me s2 = .ok (f d) s3 ∧ wipeE s3 vs = S)) →
    lcL vs g mt me ds acc S = .ok (acc ++ (ds.filter p).map f) S
  | [], acc, _, _ => by rw [lcL_nil]; simp
  | d :: ds, acc, hl, h => by
    obtain ⟨s1, s2, h1, h2, h3, h4⟩ := h d (.head _)
    have ih := fun acc hl => lcL_map p f ds acc hl fun d hd => h d (.tail _ hd)
    show (nox (g d) S).bind _ = _
    rw [nox_eq h1, bind_ok, bindM_ap, nox_eq h2, bind_ok]
    cases hp : p d with
    | false =>
      rw [if_neg (by simp)]
      show lcL vs g mt me ds acc (wipeE s2 vs) = _
      rw [h3 hp, ih acc (by simp at hl; omega), List.filter_cons, hp]
      rfl
    | true =>
      obtain ⟨s3, h5, h6⟩ := h4 hp
      rw [if_pos rfl, bindM_ap, nox_eq h5, bind_ok]
      show (if acc.length < 16777216 then _ else _) = _
      rw [if_pos (by simp at hl; omega), h6, ih (acc ++ [f d]) (by simp at hl ⊢; omega), List.filter_cons, hp]
      simp
theorem lcM_map {vs : List Nat} {mi : M (List D)} {g : D → M Unit} {mt : M Bool} {me : M D} {st st1 : Env} {ds : List D} (p : D → Bool) (f : D → D) (hi : mi st = .ok ds st1) (hc : calmE st1 vs = true) (hl : ds.length ≤ 16777216)
    (h : ∀ d ∈ ds, ∃ s1 s2, g d (wipeE st1 vs) = .ok () s1 ∧ mt s1 = .ok (p d) s2 ∧ (p d = false → wipeE s2 vs = wipeE st1 vs) ∧ (p d = true → ∃ s3, me s2 = .ok (f d) s3 ∧ wipeE s3 vs = wipeE st1 vs)) :
    lcM vs mi g mt me st = .ok (.ml ((ds.filter p).map f)) (backE (wipeE st1 vs) st1 vs) := by
  unfold lcM
  rw [bindM_ap, hi, bind_ok, if_pos hc, lcL_map p f ds [] (by simpa using hl) h]
  simp
theorem dcL_map {vs : List Nat} {g : D → M Unit} {mt : M Bool} {mk mv : M D} {S : Env} (p : D → Bool) (fk : D → DK) (fv : D → D) : ∀ (ds : List D) (acc : List (DK × D)), acc.length + ds.length ≤ 16777216 →
    (∀ d ∈ ds, ∃ s1 s2, g d S = .ok () s1 ∧ mt s1 = .ok (p d) s2 ∧ (p d = false → wipeE s2 vs = S) ∧ (p d = true → ∃ s3 s4 kd, mk s2 = .ok kd s3 ∧ keyD kd = some (fk d) ∧ mv s3 = .ok (fv d) s4 ∧ wipeE s4 vs = S)) →
    dcL vs g mt mk mv ds acc S = .ok ((ds.filter p).foldl (fun a d => putD a (fk d) (fv d)) acc) S
  | [], acc, _, _ => rfl
  | d :: ds, acc, hl, h => by
    obtain ⟨s1, s2, h1, h2, h3, h4⟩ := h d (.head _)
    have ih := fun acc hl => dcL_map p fk fv ds acc hl fun d hd => h d (.tail _ hd)
    show (nox (g d) S).bind _ = _
    rw [nox_eq h1, bind_ok, bindM_ap, nox_eq h2, bind_ok]
    cases hp : p d with
    | false =>
      rw [if_neg (by simp)]
      show dcL vs g mt mk mv ds acc (wipeE s2 vs) = _
      rw [h3 hp, ih acc (by simp at hl; omega), List.filter_cons, hp]
      rfl
    | true =>
      obtain ⟨s3, s4, kd, h5, h6, h7, h8⟩ := h4 hp
      rw [if_pos rfl, bindM_ap, nox_eq h5, bind_ok, bindM_ap, nox_eq h7, bind_ok]
      show (match keyD kd with | some k => if acc.length < 16777216 then dcL vs g mt mk mv ds (putD acc k (fv d)) (wipeE s4 vs) else .bad | none => .bad) = _
      rw [h6]
      show (if acc.length < 16777216 then _ else _) = _
      have hl2 : (putD acc (fk d) (fv d)).length ≤ acc.length + 1 := by
        unfold putD; split <;> simp
      rw [if_pos (by simp at hl; omega), h8, ih _ (by simp at hl ⊢; omega), List.filter_cons, hp]
      rfl
theorem dcM_map {vs : List Nat} {mi : M (List D)} {g : D → M Unit} {mt : M Bool} {mk mv : M D} {st st1 : Env} {ds : List D} (p : D → Bool) (fk : D → DK) (fv : D → D) (hi : mi st = .ok ds st1) (hc : calmE st1 vs = true) (hl : ds.length ≤ 16777216)
    (h : ∀ d ∈ ds, ∃ s1 s2, g d (wipeE st1 vs) = .ok () s1 ∧ mt s1 = .ok (p d) s2 ∧ (p d = false → wipeE s2 vs = wipeE st1 vs) ∧ (p d = true → ∃ s3 s4 kd, mk s2 = .ok kd s3 ∧ keyD kd = some (fk d) ∧ mv s3 = .ok (fv d) s4 ∧ wipeE s4 vs = wipeE st1 vs)) :
    dcM vs mi g mt mk mv st = .ok (.md ((ds.filter p).foldl (fun a d => putD a (fk d) (fv d)) [])) (backE (wipeE st1 vs) st1 vs) := by
  unfold dcM
  rw [bindM_ap, hi, bind_ok, if_pos hc, dcL_map p fk fv ds [] (by simpa using hl) h]
  simp
end
end Rz
namespace Rz
open PySem PySem.Spec PyProof.Rows L2
section
variable {a b : List Nat} {i j : Int}
@[simp] theorem dEq_str : dEq (.str a) (.str b) = some (.bl (decide (a = b))) := rfl
@[simp] theorem dNe_str : dNe (.str a) (.str b) = some (.bl (!decide (a = b))) := rfl
@[simp] theorem dEq_int : dEq (.int i) (.int j) = some (.bl (decide (i = j))) := rfl
@[simp] theorem dNe_int : dNe (.int i) (.int j) = some (.bl (!decide (i = j))) := rfl
@[simp] theorem dEq_bl {p q : Bool} : dEq (.bl p) (.bl q) = some (.bl (decide (p = q))) := rfl
@[simp] theorem dNe_bl {p q : Bool} : dNe (.bl p) (.bl q) = some (.bl (!decide (p = q))) := rfl
@[simp] theorem dLt_int : dLt (.int i) (.int j) = some (.bl (decide (i < j))) := rfl
@[simp] theorem dLe_int : dLe (.int i) (.int j) = some (.bl (decide (i ≤ j))) := rfl
@[simp] theorem dGt_int : dGt (.int i) (.int j) = some (.bl (decide (j < i))) := rfl
@[simp] theorem dGe_int : dGe (.int i) (.int j) = some (.bl (decide (j ≤ i))) := rfl
@[simp] theorem dAdd_int : dAdd (.int i) (.int j) = some (.int (i + j)) := rfl
@[simp] theorem dSub_int : dSub (.int i) (.int j) = some (.int (i - j)) := rfl
@[simp] theorem dNeg_int : dNeg (.int i) = some (.int (-i)) := rfl
theorem dAdd_str (h : a.length + b.length ≤ 16777216) : dAdd (.str a) (.str b) = some (.str (a ++ b)) := if_pos h
theorem dAdd_tup {xs ys : List D} (h : xs.length + ys.length ≤ 16777216) : dAdd (.tup xs) (.tup ys) = some (.tup (xs ++ ys)) := if_pos h
theorem dAdd_lst {xs ys : List D} (h : xs.length + ys.length ≤ 16777216) : dAdd (.lst xs) (.lst ys) = some (.lst (xs ++ ys)) := if_pos h
theorem dMod_int (h : 0 < j) : dMod (.int i) (.int j) = some (.int (i % j)) := if_pos h
theorem dDiv_int (h : 0 < j ∧ j < 1073741824) : dDiv (.int i) (.int j) = some (.int (i / j)) := if_pos h
theorem dMul_l (h : -(2 ^ 64) < i ∧ i < 2 ^ 64) : dMul (.int i) (.int j) = some (.int (i * j)) := if_pos (.inl h)
theorem dMul_r (h : -(2 ^ 64) < j ∧ j < 2 ^ 64) : dMul (.int i) (.int j) = some (.int (i * j)) := if_pos (.inr h)
theorem dLen_str (h : a.length ≤ 16777216) : dLen [.str a] = some (.int a.length) := if_pos h
@[simp] theorem dLen_lst {xs : List D} : dLen [.lst xs] = some (.int xs.length) := rfl
@[simp] theorem dLen_tup {xs : List D} : dLen [.tup xs] = some (.int xs.length) := rfl
@[simp] theorem dLen_scr {xs : List Int} : dLen [.scr xs] = some (.int xs.length) := rfl
@[simp] theorem dLen_dct {xs : List (DK × D)} : dLen [.dct xs] = some (.int xs.length) := rfl
theorem cutD_str {lo hi : Option Int} (h : a.length ≤ 16777216) : cutD (.str a) lo hi = some (.str (cutL a lo hi)) := if_pos h
@[simp] theorem cutD_tup {xs : List D} {lo hi : Option Int} : cutD (.tup xs) lo hi = some (.tup (cutL xs lo hi)) := rfl
@[simp] theorem cutD_lst {xs : List D} {lo hi : Option Int} : cutD (.lst xs) lo hi = some (.lst (cutL xs lo hi)) := rfl
theorem dIx_strN {n : Nat} (h : a.length ≤ 16777216) (hn : n < a.length) : dIx (.str a) (.int n) = some (.str [a[n]]) := by
  show (if a.length ≤ 16777216 then _ else none) = _
  rw [if_pos h, atI_nat', List.getElem?_eq_getElem hn]; rfl
theorem dIx_lstN {xs : List D} {n : Nat} {d : D} (h : xs[n]? = some d) : dIx (.lst xs) (.int n) = some d := by
  show atI xs (n : Int) = _
  rw [atI_nat', h]
theorem dIx_tupN {xs : List D} {n : Nat} {d : D} (h : xs[n]? = some d) : dIx (.tup xs) (.int n) = some d := by
  show atI xs (n : Int) = _
  rw [atI_nat', h]
theorem dIx_lstL {xs : List D} {d : D} : dIx (.lst (xs ++ [d])) (.int (-1)) = some d := by
  show atI (xs ++ [d]) (-1) = _
  rw [atI_last']; simp
@[simp] theorem dIx_dctS {ks : List (DK × D)} {k : List Nat} : dIx (.dct ks) (.str k) = getK ks (.str k) := rfl
@[simp] theorem dIn_dct {ks : List (DK × D)} {k : List Nat} : dIn (.str k) (.dct ks) = some (.bl (getK ks (.str k)).isSome) := rfl
@[simp] theorem dNotIn_dct {ks : List (DK × D)} {k : List Nat} : dNotIn (.str k) (.dct ks) = some (.bl (!(getK ks (.str k)).isSome)) := rfl
@[simp] theorem dIn_sign {c : Nat} {s : List Nat} : dIn (.str [c]) (.str s) = some (.bl (decide (c ∈ s))) := rfl
@[simp] theorem dNotIn_sign {c : Nat} {s : List Nat} : dNotIn (.str [c]) (.str s) = some (.bl (!decide (c ∈ s))) := rfl
def tupI (xs : List Int) : D := .tup (xs.map .int)
theorem flat_ints (xs : List Int) : (xs.map D.int).all flatD = true := by
  induction xs with
  | nil => rfl
  | cons x xs ih => simpa [flatD] using ih
theorem any_ints (k : Int) (xs : List Int) : ((xs.map D.int).any fun y => eqF y (.int k)) = decide (k ∈ xs) := by
  induction xs with
  | nil => rfl
  | cons x xs ih =>
    rw [List.map_cons, List.any_cons, ih]
    show ((x == k) || decide (k ∈ xs)) = _
    by_cases h : x = k
    · subst h; simp
    · have : ¬ k = x := fun e => h e.symm
      simp [h, this]
theorem inT_ints (k : Int) (xs : List Int) : inT (.int k) (xs.map .int) = some (decide (k ∈ xs)) := by
  unfold inT
  rw [flat_ints, any_ints]; rfl
@[simp] theorem dIn_tupI (k : Int) (xs : List Int) : dIn (.int k) (tupI xs) = some (.bl (decide (k ∈ xs))) := by
  show (inT (.int k) (xs.map .int)).map D.bl = _
  rw [inT_ints]; rfl
@[simp] theorem dNotIn_tupI (k : Int) (xs : List Int) : dNotIn (.int k) (tupI xs) = some (.bl (!decide (k ∈ xs))) := by
  show (inT (.int k) (xs.map .int)).map (fun b => D.bl (!b)) = _
  rw [inT_ints]; rfl
@[simp] theorem dIn_nil (k : Int) : dIn (.int k) (.tup []) = some (.bl false) := rfl
@[simp] theorem dNotIn_nil (k : Int) : dNotIn (.int k) (.tup []) = some (.bl true) := rfl
theorem dMax2 (i j : Int) : dMax [.int i, .int j] = some (.int (max i j)) := by
  show some (D.int (if j > i then j else i)) = _
  congr 2
  split <;> omega
theorem dMin2 (i j : Int) : dMin [.int i, .int j] = some (.int (min i j)) := by
  show some (D.int (if j < i then j else i)) = _
  congr 2
  split <;> omega
theorem dMaxL (n : Int) (ns : List Int) : dMax [.lst ((n :: ns).map .int)] = some (.int (foldMax n ns)) := by
  show (match intsOf ((n :: ns).map .int) with | some (n :: ns) => some (D.int (foldMax n ns)) | _ => none) = _
  rw [intsOf_map]
theorem dMinL (n : Int) (ns : List Int) : dMin [.lst ((n :: ns).map .int)] = some (.int (foldMin n ns)) := by
  show dMin [.lst (.int n :: ns.map .int)] = _
  unfold dMin lstD
  have : intsOf (.int n :: ns.map .int) = some (n :: ns) := intsOf_map (n :: ns)
  simp [this]
end
section
variable {st : Env}
@[simp] theorem forL_nil' {g : D → M Unit} {mb : M Fl} : forL g mb [] st = .ok .nx st := rfl
@[simp] theorem forK_nx {g : D → M Unit} {mb : M Fl} {ds : List D} : forK g mb ds (.ok .nx st) = forL g mb ds st := rfl
@[simp] theorem forK_ct {g : D → M Unit} {mb : M Fl} {ds : List D} : forK g mb ds (.ok .ct st) = forL g mb ds st := rfl
@[simp] theorem forK_bk {g : D → M Unit} {mb : M Fl} {ds : List D} : forK g mb ds (.ok .bk st) = .ok .nx st := rfl
@[simp] theorem forK_rt {g : D → M Unit} {mb : M Fl} {ds : List D} {v : Sl} : forK g mb ds (.ok (.rt v) st) = .ok (.rt v) st := rfl
@[simp] theorem enumL_nil (k : Nat) : enumL k [] = [] := rfl
@[simp] theorem enumL_cons (k : Nat) (d : D) (ds : List D) : enumL k (d :: ds) = .tup [.int k, d] :: enumL (k + 1) ds := rfl
@[simp] theorem methM_ap (cs : List Nat) (m : Str) (f : Nat → Env → Res) (io : List Nat) (mo : M D) (ma : M (List Ag)) (st : Env) : methM cs m f io mo ma st = (mo st).bind fun o => match o with
  | .ins c fs => if cs.contains c && noFld m fs then callM (f c) io (preA (.d (.ins c fs)) ma) else badM
  | _ => badM := rfl
@[simp] theorem preA_ap (g : Ag) (ma : M (List Ag)) (st : Env) : preA g ma st = (ma st).bind fun as => pureM (g :: as) := rfl
end
section
variable {ml : M (List D)} {st st' : Env}
theorem rng1M_of {n : Nat} (h : ml st = .ok [.int n] st') (hn : n ≤ 1000000) : rng1M ml st = .ok ((List.range n).map fun i : Nat => .int (0 + (i : Int))) st' := by
  have e : rng1 [.int n] = some ((List.range n).map fun i : Nat => .int (0 + (i : Int))) := by
    unfold rng1
    dsimp only
    rw [if_pos (by refine ⟨?_, ?_⟩ <;> omega), Int.toNat_natCast]
    rfl
  rw [rng1M_ap, h, bind_ok, e, liftM_some]
theorem rng2M_of {a b : Nat} (h : ml st = .ok [.int a, .int b] st') (ha : a ≤ 1000000) (hb : b ≤ 1000000) : rng2M ml st = .ok ((List.range (b - a)).map fun i : Nat => .int ((a : Int) + (i : Int))) st' := by
  have e : rng2 [.int a, .int b] = some ((List.range (b - a)).map fun i : Nat => .int ((a : Int) + (i : Int))) := by
    unfold rng2
    dsimp only
    have : ((b : Int) - (a : Int)).toNat = b - a := by omega
    rw [if_pos (by refine ⟨?_, ?_, ?_, ?_⟩ <;> omega), this]
    rfl
  rw [rng2M_ap, h, bind_ok, e, liftM_some]
theorem rng2M_1 {b : Nat} (h : ml st = .ok [.int 1, .int b] st') (hb : b ≤ 1000000) : rng2M ml st = .ok ((List.range (b - 1)).map fun i : Nat => .int (1 + (i : Int))) st' := rng2M_of (a := 1) h (by omega) hb
end
theorem strs_plain (L : List (List Nat)) : plainL (L.map D.str) = true := by
  induction L with
  | nil => rfl
  | cons x L ih => rw [List.map_cons]; show (true && plainL (L.map D.str)) = true; rw [ih]; rfl
theorem strs_dep (L : List (List Nat)) : depL (L.map D.str) = 0 := by
  induction L with
  | nil => rfl
  | cons x L ih => rw [List.map_cons]; show max 0 (depL (L.map D.str)) = 0; rw [ih]; rfl
theorem strs_strs {L : List (List Nat)} (h : ∀ w ∈ L, ∀ c ∈ w, c < 0x110000) : strsL (L.map D.str) = true := by
  induction L with
  | nil => rfl
  | cons x L ih =>
    rw [List.map_cons]
    show (x.all (· < 0x110000) && strsL (L.map D.str)) = true
    rw [ih fun w hw => h w (.tail _ hw), Bool.and_true, List.all_eq_true]
    intro c hc
    exact decide_eq_true (h x (.head _) c hc)
theorem dNe_nil {L : List (List Nat)} (h : ∀ w ∈ L, ∀ c ∈ w, c < 0x110000) : dNe (.lst (L.map .str)) (.lst []) = some (.bl (!L.isEmpty)) := by
  have h1 : (D.lst (L.map D.str)).okEq = true := by
    show (plainL (L.map D.str) && strsL (L.map D.str) && decide (depL (L.map D.str) + 1 ≤ 64)) = true
    rw [strs_plain, strs_strs h, strs_dep]; rfl
  show (if (D.lst (L.map D.str)).okEq && (D.lst []).okEq then some (PyData.eqv (D.lst (L.map D.str)).py (D.lst []).py) else none).map _ = _
  rw [h1, if_pos (by rfl)]
  cases L <;> rfl
section
variable {α : Type} {vs : List Nat} {mi : M (List D)} {g : D → M Unit} {mt : M Bool} {me mk mv : M D} {st st1 : Env} {xs : List α}
theorem filter_map_inj (inj : α → D) (p : α → Bool) (q : D → Bool) (h : ∀ x ∈ xs, q (inj x) = p x) : (xs.map inj).filter q = (xs.filter p).map inj := by
  induction xs with
  | nil => rfl
  | cons x xs ih =>
    have h1 := h x (.head _)
    have h2 := ih fun y hy => h y (.tail _ hy)
    rw [List.map_cons, List.filter_cons, List.filter_cons, h1, h2]
    cases p x <;> rfl
theorem lcL_gen {S0 : Env} (inj : α → D) (p : α → Bool) (f : α → D) (S : α → Env) : ∀ (xs : List α) (acc : List D), acc.length + xs.length ≤ 16777216 → (∀ x ∈ xs, g (inj x) S0 = .ok () (S x)) → (∀ x ∈ xs, wipeE (S x) vs = S0) → (∀ x ∈ xs, mt (S x) = .ok (p x) (S x)) → (∀ x ∈ xs, p x = true → me (S x) = .ok (f x) (S x)) →
    lcL vs g mt me (xs.map inj) acc S0 = .ok (acc ++ (xs.filter p).map f) S0
  | [], acc, _, _, _, _, _ => by simp [lcL_nil]
  | x :: xs, acc, hl, h1, h2, h3, h4 => by
    have ih := fun acc hl => lcL_gen inj p f S xs acc hl (fun y hy => h1 y (.tail _ hy)) (fun y hy => h2 y (.tail _ hy)) (fun y hy => h3 y (.tail _ hy)) (fun y hy => h4 y (.tail _ hy))
    show (nox (g (inj x)) S0).bind _ = _
    rw [nox_eq (h1 x (.head _)), bind_ok, bindM_ap, nox_eq (h3 x (.head _)), bind_ok]
    cases hp : p x with
    | false =>
      rw [if_neg (by simp)]
      show lcL vs g mt me (xs.map inj) acc (wipeE (S x) vs) = _
      rw [h2 x (.head _), ih acc (by simp at hl; omega), List.filter_cons, hp]
      rfl
    | true =>
      rw [if_pos rfl, bindM_ap, nox_eq (h4 x (.head _) hp), bind_ok]
      show (if acc.length < 16777216 then _ else _) = _
      rw [if_pos (by simp at hl; omega), h2 x (.head _), ih (acc ++ [f x]) (by simp at hl ⊢; omega), List.filter_cons, hp]
      simp
theorem lcM_gen (inj : α → D) (p : α → Bool) (f : α → D) (S : α → Env) (hi : mi st = .ok (xs.map inj) st1) (hc : calmE st1 vs = true) (hb : backE (wipeE st1 vs) st1 vs = st1) (hl : xs.length ≤ 16777216) (hg : ∀ x ∈ xs, g (inj x) (wipeE st1 vs) = .ok () (S x)) (hS : ∀ x ∈ xs, wipeE (S x) vs = wipeE st1 vs)
    (ht : ∀ x ∈ xs, mt (S x) = .ok (p x) (S x)) (he : ∀ x ∈ xs, p x = true → me (S x) = .ok (f x) (S x)) : lcM vs mi g mt me st = .ok (.ml ((xs.filter p).map f)) st1 := by
  unfold lcM
  rw [bindM_ap, hi, bind_ok, if_pos hc, lcL_gen inj p f S xs [] (by simpa using hl) hg hS ht he, bind_ok, hb]
  simp
theorem lcM_all (inj : α → D) (f : α → D) (S : α → Env) (hi : mi st = .ok (xs.map inj) st1) (hc : calmE st1 vs = true) (hb : backE (wipeE st1 vs) st1 vs = st1) (hl : xs.length ≤ 16777216) (hg : ∀ x ∈ xs, g (inj x) (wipeE st1 vs) = .ok () (S x)) (hS : ∀ x ∈ xs, wipeE (S x) vs = wipeE st1 vs)
    (he : ∀ x ∈ xs, me (S x) = .ok (f x) (S x)) : lcM vs mi g (pureM true) me st = .ok (.ml (xs.map f)) st1 := by
  have := lcM_gen (mt := pureM true) inj (fun _ => true) f S hi hc hb hl hg hS (fun _ _ => rfl) (fun x hx _ => he x hx)
  rw [this, List.filter_eq_self.mpr (fun _ _ => rfl)]
theorem dcL_gen {S0 : Env} (inj : α → D) (p : α → Bool) (fk : α → DK) (fv : α → D) (S : α → Env) : ∀ (xs : List α) (acc : List (DK × D)), acc.length + xs.length ≤ 16777216 → (∀ x ∈ xs, g (inj x) S0 = .ok () (S x)) → (∀ x ∈ xs, wipeE (S x) vs = S0) → (∀ x ∈ xs, mt (S x) = .ok (p x) (S x)) → (∀ x ∈ xs, p x = true → ∃ kd, mk (S x) = .ok kd (S x) ∧ keyD kd = some (fk x) ∧ mv (S x) = .ok (fv x) (S x)) →
    dcL vs g mt mk mv (xs.map inj) acc S0 = .ok ((xs.filter p).foldl (fun a x => putD a (fk x) (fv x)) acc) S0
  | [], acc, _, _, _, _, _ => rfl
  | x :: xs, acc, hl, h1, h2, h3, h4 => by
    have ih := fun acc hl => dcL_gen inj p fk fv S xs acc hl (fun y hy => h1 y (.tail _ hy)) (fun y hy => h2 y (.tail _ hy)) (fun y hy => h3 y (.tail _ hy)) (fun y hy => h4 y (.tail _ hy))
    show (nox (g (inj x)) S0).bind _ = _
    rw [nox_eq (h1 x (.head _)), bind_ok, bindM_ap, nox_eq (h3 x (.head _)), bind_ok]
    cases hp : p x with
    | false =>
      rw [if_neg (by simp)]
      show dcL vs g mt mk mv (xs.map inj) acc (wipeE (S x) vs) = _
      rw [h2 x (.head _), ih acc (by simp at hl; omega), List.filter_cons, hp]
      rfl
    | true =>
      obtain ⟨kd, e1, e2, e3⟩ := h4 x (.head _) hp
      rw [if_pos rfl, bindM_ap, nox_eq e1, bind_ok, bindM_ap, nox_eq e3, bind_ok]
      show (match keyD kd with | some k => if acc.length < 16777216 then dcL vs g mt mk mv (xs.map inj) (putD acc k (fv x)) (wipeE (S x) vs) else .bad | none => .bad) = _
      rw [e2]
      show (if acc.length < 16777216 then _ else _) = _
      have hl2 : (putD acc (fk x) (fv x)).length ≤ acc.length + 1 := by
        unfold putD; split <;> simp
      rw [if_pos (by simp at hl; omega), h2 x (.head _), ih _ (by simp at hl ⊢; omega), List.filter_cons, hp]
      rfl
theorem dcM_gen (inj : α → D) (p : α → Bool) (fk : α → DK) (fv : α → D) (S : α → Env) (hi : mi st = .ok (xs.map inj) st1) (hc : calmE st1 vs = true) (hb : backE (wipeE st1 vs) st1 vs = st1) (hl : xs.length ≤ 16777216) (hg : ∀ x ∈ xs, g (inj x) (wipeE st1 vs) = .ok () (S x)) (hS : ∀ x ∈ xs, wipeE (S x) vs = wipeE st1 vs)
    (ht : ∀ x ∈ xs, mt (S x) = .ok (p x) (S x)) (he : ∀ x ∈ xs, p x = true → ∃ kd, mk (S x) = .ok kd (S x) ∧ keyD kd = some (fk x) ∧ mv (S x) = .ok (fv x) (S x)) : dcM vs mi g mt mk mv st = .ok (.md ((xs.filter p).foldl (fun a x => putD a (fk x) (fv x)) [])) st1 := by
  unfold dcM
  rw [bindM_ap, hi, bind_ok, if_pos hc, dcL_gen inj p fk fv S xs [] (by simpa using hl) hg hS ht he, bind_ok, hb]
end
theorem join_fold : ∀ (xs : List (List Nat)) (a : Array Nat), ((xs.map fun s => (⟨s.toArray⟩ : Str)).foldl (fun acc p => acc ++ (⟨([] : List Nat).toArray⟩ : Str).cps ++ p.cps) a).toList = a.toList ++ xs.flatten
  | [], a => by simp
  | x :: xs, a => by
    rw [List.map_cons, List.foldl_cons, join_fold xs]
    simp
theorem join0 (xs : List (List Nat)) : (Txt.join ⟨([] : List Nat).toArray⟩ (xs.map fun s => ⟨s.toArray⟩)).cps.toList = xs.flatten := by
  cases xs with
  | nil => rfl
  | cons x xs =>
    have h := join_fold xs x.toArray
    have e : (Txt.join ⟨([] : List Nat).toArray⟩ ((x :: xs).map fun s => ⟨s.toArray⟩)).cps = (xs.map fun s => (⟨s.toArray⟩ : Str)).foldl (fun acc p => acc ++ (⟨([] : List Nat).toArray⟩ : Str).cps ++ p.cps) x.toArray := rfl
    rw [e, h]
    simp
theorem dJoin_strs (xs : List (List Nat)) (h : (xs.map (·.length)).sum ≤ 16777216) : dJoin (.str []) (.lst (xs.map .str)) = some (.str xs.flatten) := by
  show (strsOf (xs.map D.str)).bind _ = _
  rw [strsOf_map, Option.bind_some]
  rw [if_pos (by simpa using h), join0]
theorem sum_ones : ∀ w : List Nat, ((w.map fun c => [c]).map (·.length)).sum = w.length
  | [] => rfl
  | c :: w => by
    have := sum_ones w
    rw [List.map_cons, List.map_cons, List.sum_cons, this, List.length_cons, List.length_cons, List.length_nil]
    omega
theorem flatten_ones : ∀ w : List Nat, (w.map fun c => [c]).flatten = w
  | [] => rfl
  | c :: w => by rw [List.map_cons, List.flatten_cons, flatten_ones w]; rfl
theorem join_signs (w : List Nat) (h : w.length ≤ 16777216) : dJoin (.str []) (.lst (w.map fun c => .str [c])) = some (.str w) := by
  have h1 := dJoin_strs (w.map fun c => [c]) (by rw [sum_ones]; exact h)
  rw [List.map_map, flatten_ones] at h1
  exact h1
structure RP where
  c : Nat
  lens : List Int
  st : List Int
  fo : List Int
  ri : List Int
  le : List Int
def RP.fs (r : RP) : List (Str × D) := match r.c with
  | 0 => [("lengths", tupI r.lens)]
  | 1 => [("lengths", tupI r.lens), ("straight", tupI r.st), ("folded", tupI r.fo)]
  | 2 => [("lengths", tupI r.lens), ("right", tupI r.ri), ("left", tupI r.le)]
  | _ => [("lengths", tupI r.lens), ("right", tupI r.ri), ("left", tupI r.le), ("straight", tupI r.st), ("folded", tupI r.fo)]
def RP.d (r : RP) : D := .ins r.c r.fs
structure RP.Ok (r : RP) : Prop where
  c4 : r.c < 4
  n1 : 1 ≤ r.lens.length
  n12 : r.lens.length ≤ 12
  pos : ∀ x ∈ r.lens, 1 ≤ x ∧ x ≤ 40
  o0 : r.c = 0 ∨ r.c = 2 → r.st = [] ∧ r.fo = []
  o1 : r.c = 0 ∨ r.c = 1 → r.ri = [] ∧ r.le = []
theorem RP.Ok.cases {r : RP} (h : r.Ok) : (∃ l, r = ⟨0, l, [], [], [], []⟩) ∨ (∃ l s f, r = ⟨1, l, s, f, [], []⟩) ∨ (∃ l ri le, r = ⟨2, l, [], [], ri, le⟩) ∨ ∃ l s f ri le, r = ⟨3, l, s, f, ri, le⟩ := by
  obtain ⟨c, l, s, f, ri, le⟩ := r
  have hc : c < 4 := h.c4
  have h0 : c = 0 ∨ c = 2 → s = [] ∧ f = [] := h.o0
  have h1 : c = 0 ∨ c = 1 → ri = [] ∧ le = [] := h.o1
  match c, hc with
  | 0, _ => obtain ⟨rfl, rfl⟩ := h0 (.inl rfl); obtain ⟨rfl, rfl⟩ := h1 (.inl rfl); exact .inl ⟨_, rfl⟩
  | 1, _ => obtain ⟨rfl, rfl⟩ := h1 (.inr rfl); exact .inr (.inl ⟨_, _, _, rfl⟩)
  | 2, _ => obtain ⟨rfl, rfl⟩ := h0 (.inr rfl); exact .inr (.inr (.inl ⟨_, _, _, rfl⟩))
  | 3, _ => exact .inr (.inr (.inr ⟨_, _, _, _, _, rfl⟩))
theorem RP.Ok.len {r : RP} (h : r.Ok) : r.fs.lookup ("lengths" : Str) = some (tupI r.lens) := by
  rcases h.cases with ⟨l, rfl⟩ | ⟨l, s, f, rfl⟩ | ⟨l, ri, le, rfl⟩ | ⟨l, s, f, ri, le, rfl⟩ <;> rfl
def RP.may (r : RP) (k : Int) (b w : List Nat) : Bool :=
  !(decide (k - 1 ∈ r.st) && !decide (b = w)) && !(decide (k - 1 ∈ r.fo) && decide (b = w)) && !(decide (k ∈ r.ri) && decide (w = [76])) && !(decide (k ∈ r.le) && decide (w = [82]))
def RP.allowsL (r : RP) : Nat → List Nat → List Nat → Bool
  | _, _, [] => true
  | k, b, c :: cs => r.may (k + 1 : Nat) b [c] && r.allowsL (k + 1) [c] cs
def RP.allows (r : RP) (w : List Nat) : Bool := r.allowsL 0 [] w
def isW (w : List Nat) : Prop := ∀ c ∈ w, c = 76 ∨ c = 82
def flipC (c : Nat) : Nat := if c = 76 then 82 else 76
def turnS (w : List Nat) (h : Nat) : List Nat := w.take h ++ (w.drop h).map flipC
def placesL (p : Int) : List Int → List Nat → List Int
  | l :: ls, c :: cs => (if c = 82 then p + l else p - l) :: placesL (if c = 82 then p + l else p - l) ls cs
  | _, _ => []
def ends (p lo hi : Int) : List Int → List Nat → Int × Int × Int
  | l :: ls, c :: cs => ends (if c = 82 then p + l else p - l) (min lo (if c = 82 then p + l else p - l)) (max hi (if c = 82 then p + l else p - l)) ls cs
  | _, _ => (p, lo, hi)
def spanP (ls : List Int) (w : List Nat) : Int := (ends 0 0 0 ls w).2.2 - (ends 0 0 0 ls w).2.1
theorem foldMax_ends (p lo hi : Int) : ∀ (ls : List Int) (w : List Nat), foldMax hi (placesL p ls w) = (ends p lo hi ls w).2.2
  | [], _ => rfl
  | _ :: _, [] => rfl
  | l :: ls, c :: cs => by
    unfold placesL ends
    rw [← foldMax_ends _ (min lo (if c = 82 then p + l else p - l))]
    unfold foldMax
    rw [List.foldl_cons]
    congr 1
    split <;> omega
theorem foldMin_ends (p lo hi : Int) : ∀ (ls : List Int) (w : List Nat), foldMin lo (placesL p ls w) = (ends p lo hi ls w).2.1
  | [], _ => rfl
  | _ :: _, [] => rfl
  | l :: ls, c :: cs => by
    unfold placesL ends
    rw [← foldMin_ends _ _ (max hi (if c = 82 then p + l else p - l))]
    unfold foldMin
    rw [List.foldl_cons]
    congr 1
    split <;> omega
end Rz
namespace Rz
section
variable {α : Type} [DecidableEq α] (nb : α → List (Int × α))
def has (F : List (α × List Int)) (y : α) : Bool := F.any fun e => decide (e.1 = y)
def look (F : List (α × List Int)) (x : α) : List Int := ((F.find? fun e => decide (e.1 = x)).map (·.2)).getD []
def visit (x : α) (s : List (α × List Int) × List α) (e : Int × α) : List (α × List Int) × List α := if has s.1 e.2 = true then s else (s.1 ++ [(e.2, look s.1 x ++ [e.1])], s.2 ++ [e.2])
def layerN (F : List (α × List Int)) (L : List α) : List (α × List Int) × List α := L.foldl (fun s x => (nb x).foldl (visit x) s) (F, [])
def bfsN : Nat → List (α × List Int) → List α → List (α × List Int)
  | 0, F, _ => F
  | n + 1, F, L => match L with
    | [] => F
    | L => bfsN n (layerN nb F L).1 (layerN nb F L).2
inductive Walk (a : α) : List Int → α → Prop
  | nil : Walk a [] a
  | snoc {p : List Int} {y z : α} {h : Int} : Walk a p y → (h, z) ∈ nb y → Walk a (p ++ [h]) z
theorem has_iff {F : List (α × List Int)} {y : α} : has F y = true ↔ ∃ p, (y, p) ∈ F := by
  unfold has
  rw [List.any_eq_true]
  constructor
  · rintro ⟨⟨z, p⟩, h1, h2⟩
    have : z = y := of_decide_eq_true h2
    subst this
    exact ⟨p, h1⟩
  · rintro ⟨p, h⟩
    exact ⟨(y, p), h, decide_eq_true rfl⟩
theorem look_of {F : List (α × List Int)} (hn : (F.map (·.1)).Nodup) {y : α} {p : List Int} (h : (y, p) ∈ F) : look F y = p := by
  unfold look
  induction F with
  | nil => cases h
  | cons e F ih =>
    rw [List.map_cons, List.nodup_cons] at hn
    by_cases he : e.1 = y
    · rcases List.mem_cons.mp h with h | h
      · subst h; simp
      · exact absurd (List.mem_map.mpr ⟨_, h, rfl⟩) (by rw [← he]; exact hn.1)
    · rcases List.mem_cons.mp h with h | h
      · subst h; exact absurd rfl he
      · rw [List.find?_cons_of_neg (by simpa using he)]
        exact ih hn.2 h
theorem look_mem {F : List (α × List Int)} (hn : (F.map (·.1)).Nodup) {y : α} (h : has F y = true) : (y, look F y) ∈ F := by
  obtain ⟨p, hp⟩ := has_iff.mp h
  rw [look_of hn hp]; exact hp
structure BInv (a : α) (d : Nat) (F : List (α × List Int)) (L : List α) : Prop where
  nd : (F.map (·.1)).Nodup
  walk : ∀ y p, (y, p) ∈ F → Walk nb a p y
  len : ∀ y p, (y, p) ∈ F → p.length ≤ d
  lay : ∀ y, y ∈ L ↔ ∃ p, (y, p) ∈ F ∧ p.length = d
  comp : ∀ p y, Walk nb a p y → p.length ≤ d → ∃ q, (y, q) ∈ F ∧ q.length ≤ p.length
  closed : ∀ x p, (x, p) ∈ F → p.length < d → ∀ h z, (h, z) ∈ nb x → has F z = true
structure LInv (d : Nat) (F : List (α × List Int)) (L : List α) (done : α → Int → α → Prop) (s : List (α × List Int) × List α) : Prop where
  ex : ∃ N, s.1 = F ++ N ∧ s.2 = N.map (·.1) ∧ (s.1.map (·.1)).Nodup ∧ (∀ z p, (z, p) ∈ N → ∃ x q h, x ∈ L ∧ (x, q) ∈ F ∧ q.length = d ∧ (h, z) ∈ nb x ∧ p = q ++ [h])
  dn : ∀ x h z, done x h z → has s.1 z = true
variable {nb}
theorem LInv.visit {a : α} {d : Nat} {F : List (α × List Int)} {L : List α} {done : α → Int → α → Prop} {s : List (α × List Int) × List α} (B : BInv nb a d F L) (I : LInv nb d F L done s) {x : α} (hx : x ∈ L) {h : Int} {z : α} (he : (h, z) ∈ nb x) :
    LInv nb d F L (fun x' h' z' => done x' h' z' ∨ (x' = x ∧ h' = h ∧ z' = z)) (Rz.visit x s (h, z)) := by
  obtain ⟨N, e1, e2, e3, e4⟩ := I.ex
  unfold Rz.visit
  by_cases hh : has s.1 z = true
  · rw [if_pos hh]
    exact ⟨⟨N, e1, e2, e3, e4⟩, fun x' h' z' hd => by
      rcases hd with hd | ⟨_, _, rfl⟩
      · exact I.dn _ _ _ hd
      · exact hh⟩
  · rw [if_neg hh]
    obtain ⟨q, hq, hl⟩ := (B.lay x).mp hx
    have hlook : look s.1 x = q := look_of e3 (by rw [e1]; exact List.mem_append_left _ hq)
    refine ⟨⟨N ++ [(z, q ++ [h])], by dsimp only; rw [hlook, e1, List.append_assoc], by simp [e2], ?_, ?_⟩, ?_⟩
    · dsimp only
      rw [List.map_append, List.nodup_append]
      refine ⟨e3, by simp, ?_⟩
      intro u hu v hv
      simp at hv
      subst hv
      rintro rfl
      obtain ⟨⟨u', p⟩, hu1, hu2⟩ := List.mem_map.mp hu
      dsimp only at hu2
      subst hu2
      exact hh (has_iff.mpr ⟨p, hu1⟩)
    · intro z' p hp
      rcases List.mem_append.mp hp with hp | hp
      · exact e4 z' p hp
      · simp at hp
        obtain ⟨rfl, rfl⟩ := hp
        exact ⟨x, q, h, hx, hq, hl, he, rfl⟩
    · intro x' h' z' hd
      rcases hd with hd | ⟨_, _, rfl⟩
      · obtain ⟨p, hp⟩ := has_iff.mp (I.dn _ _ _ hd)
        exact has_iff.mpr ⟨p, List.mem_append_left _ hp⟩
      · exact has_iff.mpr ⟨_, List.mem_append_right _ (.head _)⟩
theorem LInv.imp {d : Nat} {F : List (α × List Int)} {L : List α} {done done' : α → Int → α → Prop} {s : List (α × List Int) × List α} (I : LInv nb d F L done s) (h : ∀ x i z, done' x i z → done x i z) : LInv nb d F L done' s :=
  ⟨I.ex, fun x i z hd => I.dn x i z (h x i z hd)⟩
theorem LInv.node {a : α} {d : Nat} {F : List (α × List Int)} {L : List α} (B : BInv nb a d F L) {x : α} (hx : x ∈ L) : ∀ (es : List (Int × α)) (done : α → Int → α → Prop) (s : List (α × List Int) × List α), LInv nb d F L done s → (∀ e ∈ es, e ∈ nb x) →
    LInv nb d F L (fun x' h' z' => done x' h' z' ∨ (x' = x ∧ (h', z') ∈ es)) (es.foldl (Rz.visit x) s)
  | [], done, s, I, _ => I.imp fun x' h' z' hd => by
    rcases hd with hd | ⟨_, hd⟩
    · exact hd
    · cases hd
  | (h, z) :: es, done, s, I, hs => by
    have I2 := LInv.node B hx es _ _ (I.visit B hx (hs _ (.head _))) fun e he => hs e (.tail _ he)
    refine I2.imp fun x' h' z' hd => ?_
    rcases hd with hd | ⟨hx', hd⟩
    · exact .inl (.inl hd)
    · rcases List.mem_cons.mp hd with hd | hd
      · cases hd; exact .inl (.inr ⟨hx', rfl, rfl⟩)
      · exact .inr ⟨hx', hd⟩
theorem LInv.nodes {a : α} {d : Nat} {F : List (α × List Int)} {L : List α} (B : BInv nb a d F L) : ∀ (xs : List α) (done : α → Int → α → Prop) (s : List (α × List Int) × List α), LInv nb d F L done s → (∀ x ∈ xs, x ∈ L) →
    LInv nb d F L (fun x' h' z' => done x' h' z' ∨ (x' ∈ xs ∧ (h', z') ∈ nb x')) (xs.foldl (fun s x => (nb x).foldl (Rz.visit x) s) s)
  | [], done, s, I, _ => I.imp fun x' h' z' hd => by
    rcases hd with hd | ⟨hd, _⟩
    · exact hd
    · cases hd
  | x :: xs, done, s, I, hs => by
    have I2 := LInv.nodes B xs _ _ (LInv.node B (hs x (.head _)) (nb x) done s I fun e he => he) fun y hy => hs y (.tail _ hy)
    refine I2.imp fun x' h' z' hd => ?_
    rcases hd with hd | ⟨hx', hd⟩
    · exact .inl (.inl hd)
    · rcases List.mem_cons.mp hx' with rfl | hx'
      · exact .inl (.inr ⟨rfl, hd⟩)
      · exact .inr ⟨hx', hd⟩
theorem BInv.layer {a : α} {d : Nat} {F : List (α × List Int)} {L : List α} (B : BInv nb a d F L) : BInv nb a (d + 1) (layerN nb F L).1 (layerN nb F L).2 ∧ ∃ N, (layerN nb F L).1 = F ++ N ∧ (layerN nb F L).2 = N.map (·.1) := by
  have I0 : LInv nb d F L (fun _ _ _ => False) (F, []) := ⟨⟨[], by simp, rfl, B.nd, fun z p h => by cases h⟩, fun _ _ _ h => h.elim⟩
  have I := LInv.nodes B L _ _ I0 fun x hx => hx
  obtain ⟨N, e1, e2, e3, e4⟩ := I.ex
  have hN : ∀ z p, (z, p) ∈ N → p.length = d + 1 := fun z p h => by
    obtain ⟨x, q, i, _, _, hl, _, rfl⟩ := e4 z p h
    simp [hl]
  have clo : ∀ x p, (x, p) ∈ F → ∀ h z, (h, z) ∈ nb x → has (layerN nb F L).1 z = true := fun x p hp h z hz => by
    by_cases hl : p.length < d
    · obtain ⟨q, hq⟩ := has_iff.mp (B.closed x p hp hl h z hz)
      exact has_iff.mpr ⟨q, by show _ ∈ (layerN nb F L).1; unfold layerN; rw [e1]; exact List.mem_append_left _ hq⟩
    · have : p.length = d := by have := B.len x p hp; omega
      exact I.dn x h z (.inr ⟨(B.lay x).mpr ⟨p, hp, this⟩, hz⟩)
  have E1 : (layerN nb F L).1 = F ++ N := e1
  have E2 : (layerN nb F L).2 = N.map (·.1) := e2
  refine ⟨⟨e3, fun y p h => ?_, fun y p h => ?_, fun y => ?_, fun p y hw hl => ?_, fun x p hp hl h z hz => ?_⟩, N, E1, E2⟩
  · rw [E1] at h
    rcases List.mem_append.mp h with h | h
    · exact B.walk y p h
    · obtain ⟨x, q, i, hx, hq, _, hi, rfl⟩ := e4 y p h
      exact .snoc (B.walk x q hq) hi
  · rw [E1] at h
    rcases List.mem_append.mp h with h | h
    · exact Nat.le_succ_of_le (B.len y p h)
    · exact Nat.le_of_eq (hN y p h)
  · rw [E2]
    constructor
    · intro h
      obtain ⟨⟨y', p⟩, h1, h2⟩ := List.mem_map.mp h
      dsimp only at h2
      subst h2
      exact ⟨p, by rw [E1]; exact List.mem_append_right _ h1, hN _ _ h1⟩
    · rintro ⟨p, hp, hl⟩
      rw [E1] at hp
      rcases List.mem_append.mp hp with hp | hp
      · have := B.len y p hp; omega
      · exact List.mem_map.mpr ⟨_, hp, rfl⟩
  · cases hw with
    | nil =>
      obtain ⟨q, hq, hq2⟩ := B.comp [] a .nil (Nat.zero_le _)
      exact ⟨q, by rw [E1]; exact List.mem_append_left _ hq, hq2⟩
    | @snoc p' x _ h hw hz =>
      have hl' : p'.length ≤ d := by simpa using hl
      obtain ⟨q, hq, hq2⟩ := B.comp p' x hw hl'
      obtain ⟨q2, hq3⟩ := has_iff.mp (clo x q hq h y hz)
      by_cases hq4 : q2.length ≤ (p' ++ [h]).length
      · exact ⟨q2, hq3, hq4⟩
      ·
        have hq3' := hq3
        rw [E1] at hq3'
        rcases List.mem_append.mp hq3' with hm | hm
        · by_cases hp : (p' ++ [h]).length ≤ d
          · obtain ⟨q5, hq5, hq6⟩ := B.comp _ y (.snoc hw hz) hp
            exact ⟨q5, by rw [E1]; exact List.mem_append_left _ hq5, hq6⟩
          · have := B.len y q2 hm
            simp at hp hq4; omega
        · have := hN y q2 hm
          by_cases hp : (p' ++ [h]).length ≤ d
          · obtain ⟨q5, hq5, hq6⟩ := B.comp _ y (.snoc hw hz) hp
            exact ⟨q5, by rw [E1]; exact List.mem_append_left _ hq5, hq6⟩
          · exact ⟨q2, hq3, by simp at hp hl ⊢; omega⟩
  · rw [E1] at hp
    rcases List.mem_append.mp hp with hp | hp
    · exact clo x p hp h z hz
    · have := hN x p hp; omega
theorem BInv.start (a : α) : BInv nb a 0 [(a, [])] [a] where
  nd := by simp
  walk := fun y p h => by simp at h; obtain ⟨rfl, rfl⟩ := h; exact .nil
  len := fun y p h => by simp at h; simp [h.2]
  lay := fun y => by
    constructor
    · intro h; simp at h; subst h; exact ⟨[], by simp, rfl⟩
    · rintro ⟨p, h, _⟩; simp at h; simp [h.1]
  comp := fun p y hw hl => by
    cases hw with
    | nil => exact ⟨[], by simp, Nat.le_refl _⟩
    | snoc hw hz => simp at hl
  closed := fun x p _ hl => by omega
structure BEnd (nb : α → List (Int × α)) (a : α) (F : List (α × List Int)) : Prop where
  nd : (F.map (·.1)).Nodup
  walk : ∀ y p, (y, p) ∈ F → Walk nb a p y
  least : ∀ p y, Walk nb a p y → ∃ q, (y, q) ∈ F ∧ q.length ≤ p.length
theorem BInv.fin {a : α} {d : Nat} {F : List (α × List Int)} (B : BInv nb a d F []) : BEnd nb a F := by
  have lt : ∀ y p, (y, p) ∈ F → p.length < d := fun y p h => by
    have h1 := B.len y p h
    by_cases h2 : p.length = d
    · exact nomatch ((B.lay y).mpr ⟨p, h, h2⟩)
    · omega
  refine ⟨B.nd, B.walk, fun p y hw => ?_⟩
  by_cases hl : p.length ≤ d
  · exact B.comp p y hw hl
  ·
    have all : ∀ p y, Walk nb a p y → has F y = true := fun p y hw => by
      induction hw with
      | nil => obtain ⟨q, hq, _⟩ := B.comp [] a .nil (Nat.zero_le _); exact has_iff.mpr ⟨q, hq⟩
      | @snoc p x z h hw hz ih =>
        obtain ⟨q, hq⟩ := has_iff.mp ih
        exact B.closed x q hq (lt x q hq) h z hz
    obtain ⟨q, hq⟩ := has_iff.mp (all p y hw)
    exact ⟨q, hq, by have := lt y q hq; omega⟩
theorem bfsN_end (U : List α) (a : α) (hU : ∀ p y, Walk nb a p y → y ∈ U) : ∀ (n d : Nat) (F : List (α × List Int)) (L : List α), BInv nb a d F L → U.length + 1 ≤ n + F.length → BEnd nb a (bfsN nb n F L) ∧ (L ≠ [] → 0 < n)
  | 0, d, F, L, B, hn => by
    exfalso
    have hs : (F.map (·.1)) ⊆ U := fun y hy => by
      obtain ⟨⟨y', p⟩, h1, h2⟩ := List.mem_map.mp hy
      dsimp only at h2; subst h2
      exact hU p y' (B.walk y' p h1)
    have : (F.map (·.1)).length ≤ U.length := List.Nodup.length_le_of_subset B.nd hs
    simp at this hn
    omega
  | n + 1, d, F, [], B, hn => ⟨by unfold bfsN; exact B.fin, fun h => absurd rfl h⟩
  | n + 1, d, F, x :: L, B, hn => by
    refine ⟨?_, fun _ => Nat.succ_pos _⟩
    obtain ⟨B2, N, e1, e2⟩ := B.layer
    have e : bfsN nb (n + 1) F (x :: L) = bfsN nb n (layerN nb F (x :: L)).1 (layerN nb F (x :: L)).2 := rfl
    rw [e]
    by_cases hN : N = []
    · subst hN
      have e2' : (layerN nb F (x :: L)).2 = [] := by simpa using e2
      rw [e2'] at B2 ⊢
      cases n with
      | zero => exact B2.fin
      | succ n => exact B2.fin
    · have hl : 0 < N.length := List.length_pos_iff.mpr hN
      exact (bfsN_end U a hU n (d + 1) _ _ B2 (by rw [e1, List.length_append]; omega)).1
end
end Rz
namespace Rz
open PySem PySem.Spec PyProof.Rows L2
def isDct : Option Sl → Bool
  | some (.md _) => true
  | some (.fz (.dct _)) => true
  | _ => false
def dGet1 (d : D) (ks : List D) : Option D := match d, ks with
  | .dct kvs, [k] => (keyD k).map fun kk => (getK kvs kk).getD .non
  | _, _ => none
def dGet2 (d : D) (ks : List D) : Option D := match d, ks with
  | .dct kvs, [k, z] => if flatD z = true then (keyD k).map fun kk => (getK kvs kk).getD z else none
  | _, _ => none
def dgetM (g : D → List D → Option D) (i : Nat) (ml : M (List D)) : M D := fun st => if isDct st[i]? = true then (bindM ml fun ds => bindM (seeM i) fun d => liftM (g d ds)) st else .bad
def dgetV (g : D → List D → Option D) (m : M D) (ml : M (List D)) : M D := bindM m fun d => match d with
  | .dct _ => bindM ml fun ds => liftM (g d ds)
  | _ => badM
section
variable {G : Nat → Addr} {X : Cx} {W : WX} {e f o : Expr} {es : List Expr} {pos apos cpos np : Pos} {w w' w0 : Wd} {st : Env} {σ : L2.St} {i : Nat} {x : Str}
theorem dct_see {K : PySem.W.Frag} (r : Rel K G w st σ) (h : isDct st[i]? = true) : ∃ a ks vs, σ[i]? = some (some (.ref a)) ∧ (∃ s, st[i]? = some s ∧ s ≠ .un ∧ s.toD = .dct ks) ∧ Rd w.H a (.dK vs) ∧ RepK K G w.F vs ks := by
  cases es : (st[i]? : Option Sl) with
  | none => rw [es] at h; cases h
  | some s =>
    rw [es] at h
    cases s with
    | md ks =>
      obtain ⟨y, hy, a, vs, rfl, k, hh, q⟩ := r.at_ i _ es
      exact ⟨a, ks, vs, hy, ⟨_, rfl, (by intro z; cases z), rfl⟩, .inl hh, q⟩
    | fz d =>
      cases d with
      | dct ks =>
        obtain ⟨y, hy, v, rfl, q⟩ := r.at_ i _ es
        cases q with
        | dct q1 q2 => exact ⟨_, ks, _, hy, ⟨_, rfl, (by intro z; cases z), rfl⟩, .inr ⟨_, r.ok.sub _ _ q1⟩, q2⟩
      | _ => cases h
    | _ => cases h
theorem get_end {K : PySem.W.Frag} {H : Hp} {a : Addr} {vs : List (Key × V)} {ks : List (DK × D)} {F : Hp} {k : DK} {y : V} (hd : Rd H a (.dK vs)) (rk : RepK K G F vs ks) (ey : y = kV (kyV k)) : ∃ o : Option V, DGet H a y o ∧ ∀ (z : D) (u : V), Rep K G F u z → Rep K G F (o.getD u) ((getK ks k).getD z) := by
  rcases rk.get k with ⟨h1, h2⟩ | ⟨v0, d0, h1, h2, h3⟩
  · exact ⟨none, .inl ⟨vs, kyV k, hd, ey, h2.symm⟩, fun z u q => by rw [h1]; exact q⟩
  · exact ⟨some v0, .inl ⟨vs, kyV k, hd, ey, h2.symm⟩, fun z u q => by rw [h1]; exact h3⟩
theorem see_cases (st : Env) (i : Nat) : (seeM i st = .bad) ∨ ∃ s, st[i]? = some s ∧ s ≠ .un ∧ seeM i st = .ok s.toD st := by
  unfold seeM
  cases es : (st[i]? : Option Sl) with
  | none => exact .inl rfl
  | some s =>
    cases s <;> first | exact .inl rfl | exact .inr ⟨_, rfl, (by intro z; cases z), rfl⟩
theorem fin1 {w : Wd} (ok : w.Ok) {a : Addr} {d z : D} {ds : List D} {us : List V} (rb : RepB X.K G w (.ref a) d) (rl : RepBL X.K G w us ds) (eg : dGet1 d ds = some z) : ∃ y, us = [y] ∧ ∃ o, DGet w.H a y o ∧ Rep X.K G w.F (o.getD .non) z := by
  cases d with
  | dct kvs =>
    cases rl with
    | nil => cases eg
    | @cons y ys b bs b1 q1 =>
      cases q1 with
      | nil =>
        obtain ⟨k, ek, rfl⟩ := Option.map_eq_some_iff.mp (show (keyD b).map _ = some z from eg)
        obtain ⟨a', vs', e2, hd', rk'⟩ := repB_dct ok rb
        cases e2
        obtain ⟨o, g, gf⟩ := get_end hd' rk' (kV_of (repB_flat b1 (key_flat ek)) ek)
        exact ⟨y, rfl, o, g, gf .non .non .non⟩
      | cons _ _ => cases eg
  | _ => cases eg
theorem fin2 {w : Wd} (ok : w.Ok) {a : Addr} {d z : D} {ds : List D} {us : List V} (rb : RepB X.K G w (.ref a) d) (rl : RepBL X.K G w us ds) (eg : dGet2 d ds = some z) : ∃ y u, us = [y, u] ∧ ∃ o, DGet w.H a y o ∧ Rep X.K G w.F (o.getD u) z := by
  cases d with
  | dct kvs =>
    cases rl with
    | nil => cases eg
    | @cons y ys b bs b1 q1 =>
      cases q1 with
      | nil => cases eg
      | @cons u us b' bs' b2 q2 =>
        cases q2 with
        | nil =>
          have eg : (if flatD b' = true then (keyD b).map fun kk => (getK kvs kk).getD b' else none) = some z := eg
          by_cases hf : flatD b' = true
          · rw [if_pos hf] at eg
            obtain ⟨k, ek, rfl⟩ := Option.map_eq_some_iff.mp eg
            obtain ⟨a', vs', e2, hd', rk'⟩ := repB_dct ok rb
            cases e2
            obtain ⟨o, g, gf⟩ := get_end hd' rk' (kV_of (repB_flat b1 (key_flat ek)) ek)
            exact ⟨y, u, rfl, o, g, gf b' u (repB_flat b2 hf)⟩
          · rw [if_neg hf] at eg; cases eg
        | cons _ _ => cases eg
  | _ => cases eg
theorem snd_dget1 {ml : M (List D)} (hu : X.A.units + 1 < cLine) (h : SndL G X W [e] ml) (hN : X.N[i]? = some x := by rfl) (hv : Vis X.env.scope x := by first | exact Or.inl rfl | exact Or.inr (Or.inl rfl) | exact Or.inr (Or.inr rfl))
    (hd : (x == ("__debug__" : Str)) = false := by decide) (hcd : (x == ("__classdict__" : Str)) = false := by decide)
    (hm : M1 X (.Name x np) "get" apos e cpos := by exact ⟨rfl, rfl, rfl, rfl⟩) :
    SndD G X W (.Call (.Attribute (.Name x np) "get" apos) [e] [] cpos) (dgetM dGet1 i ml) := by
  intro w st σ Q r p
  unfold dgetM at p
  by_cases hc : isDct st[i]? = true
  · rw [if_pos hc] at p
    obtain ⟨a, ks, vs, hσ, _, rd, rk⟩ := dct_see r hc
    refine RunE.of (pe_dget1 hu (pe_var hN hv hd hcd) pe_run hm) ?_
    refine ⟨.ref a, hσ, a, rfl, .inl ⟨vs, rd⟩, ?_⟩
    have hh := Snd.bind (run1 := RunL X [e]) (Q1 := fun ys H2 => match ys with | [y] => ∃ o, DGet H2 a y o ∧ Q (o.getD .non) H2 | _ => False) h older_D r p fun ds us w1 st1 r1 s1 q1 p1 => ?_
    · exact hh
    · rw [bindM] at p1
      rcases see_cases st1 i with e1 | ⟨s, es, hs, e1⟩
      · rw [e1] at p1; exact p1.elim
      · rw [e1] at p1
        obtain ⟨v, hv', rb⟩ := see_rel r1 es hs
        rw [hσ] at hv'
        cases hv'
        have p2 : Post X.K G (RD X.K G) w1 σ W ((liftM (dGet1 s.toD ds) : M D) st1) Q := p1
        cases eg : dGet1 s.toD ds with
        | none => rw [eg] at p2; exact p2.elim
        | some z =>
          rw [eg] at p2
          obtain ⟨y, rfl, o, g, rz⟩ := fin1 r1.ok rb q1 eg
          exact ⟨o, g, p2 _ w1 r1 (Step.refl _) rz⟩
  · rw [if_neg hc] at p; exact p.elim
theorem snd_dget2 {ml : M (List D)} (hu : X.A.units + 1 < cLine) (h : SndL G X W [e, f] ml) (hN : X.N[i]? = some x := by rfl) (hv : Vis X.env.scope x := by first | exact Or.inl rfl | exact Or.inr (Or.inl rfl) | exact Or.inr (Or.inr rfl))
    (hd : (x == ("__debug__" : Str)) = false := by decide) (hcd : (x == ("__classdict__" : Str)) = false := by decide)
    (hm : M2 X (.Name x np) "get" apos e f cpos := by exact ⟨rfl, rfl, rfl, rfl⟩) :
    SndD G X W (.Call (.Attribute (.Name x np) "get" apos) [e, f] [] cpos) (dgetM dGet2 i ml) := by
  intro w st σ Q r p
  unfold dgetM at p
  by_cases hc : isDct st[i]? = true
  · rw [if_pos hc] at p
    obtain ⟨a, ks, vs, hσ, _, rd, rk⟩ := dct_see r hc
    refine RunE.of (pe_dget2 hu (pe_var hN hv hd hcd) pe_run pe_run hm) ?_
    refine ⟨.ref a, hσ, a, rfl, .inl ⟨vs, rd⟩, ?_⟩
    have hh := Snd.bind (run1 := RunL X [e, f]) (Q1 := fun ys H2 => match ys with | [y, u] => ∃ o, DGet H2 a y o ∧ Q (o.getD u) H2 | _ => False) h older_D r p fun ds us w1 st1 r1 s1 q1 p1 => ?_
    · exact hh
    · rw [bindM] at p1
      rcases see_cases st1 i with e1 | ⟨s, es, hs, e1⟩
      · rw [e1] at p1; exact p1.elim
      · rw [e1] at p1
        obtain ⟨v, hv', rb⟩ := see_rel r1 es hs
        rw [hσ] at hv'
        cases hv'
        have p2 : Post X.K G (RD X.K G) w1 σ W ((liftM (dGet2 s.toD ds) : M D) st1) Q := p1
        cases eg : dGet2 s.toD ds with
        | none => rw [eg] at p2; exact p2.elim
        | some z =>
          rw [eg] at p2
          obtain ⟨y, u, rfl, o, g, rz⟩ := fin2 r1.ok rb q1 eg
          exact ⟨o, g, p2 _ w1 r1 (Step.refl _) rz⟩
  · rw [if_neg hc] at p; exact p.elim
theorem snd_dgetV1 {m : M D} {ml : M (List D)} (hu : X.A.units + 1 < cLine) (ho : SndD G X W o m) (h : SndL G X W [e] ml) (hm : M1 X o "get" apos e cpos := by exact ⟨rfl, rfl, rfl, rfl⟩) :
    SndD G X W (.Call (.Attribute o "get" apos) [e] [] cpos) (dgetV dGet1 m ml) := by
  intro w st σ Q r p
  refine RunE.of (pe_dget1 hu (pe_run (e := o)) pe_run hm) ?_
  refine Snd.bind (run1 := RunE X o) ho older_D r p fun d u w1 st1 r1 s1 q1 p1 => ?_
  cases d with
  | dct kvs =>
    obtain ⟨a, vs, rfl, hd, rk⟩ := repB_dct r1.ok (.fz q1)
    refine ⟨a, rfl, .inl ⟨vs, hd⟩, ?_⟩
    have p1 : Post X.K G (RD X.K G) w1 σ W ((bindM ml fun ds => (liftM (dGet1 (.dct kvs) ds) : M D)) st1) Q := p1
    have hh := Snd.bind (run1 := RunL X [e]) (Q1 := fun ys H2 => match ys with | [y] => ∃ o, DGet H2 a y o ∧ Q (o.getD .non) H2 | _ => False) h older_D r1 p1 fun ds us w2 st2 r2 s2 q2 p2 => ?_
    · exact hh
    · have p3 : Post X.K G (RD X.K G) w2 σ W ((liftM (dGet1 (.dct kvs) ds) : M D) st2) Q := p2
      cases eg : dGet1 (.dct kvs) ds with
      | none => rw [eg] at p3; exact p3.elim
      | some z =>
        rw [eg] at p3
        obtain ⟨y, rfl, o, g, rz⟩ := fin1 r2.ok (.fz (q1.mono s2.f)) q2 eg
        exact ⟨o, g, p3 _ w2 r2 (Step.refl _) rz⟩
  | _ => exact p1.elim
theorem readsAll_bls {h : Heap} : ∀ {bs : List Bool} {us : List Value}, Vals (bs.map V.bl) us → ReadsAll h us (bs.map PyData.bool) []
  | [], us, r => by cases r; exact .nil
  | b :: bs, us, r => by
    cases r with
    | cons q t =>
      cases q
      exact ReadsAll.cons (as := []) (bs := []) (.bool _) (readsAll_bls t)
theorem countIn_bls (k : Bool) : ∀ bs : List Bool, countIn (.bool k) (bs.map PyData.bool) = ((bs.count k : Nat) : Int)
  | [] => rfl
  | b :: bs => by
    rw [List.map_cons, countIn, countIn_bls k bs, List.count_cons]
    simp only [same]
    cases b <;> cases k <;> simp <;> omega
theorem has_bls (bs : List Bool) : (bs.map PyData.bool).all Shape.bool.has = true := by
  rw [List.all_eq_true]
  intro x hx
  obtain ⟨b, _, rfl⟩ := List.mem_map.mp hx
  rfl
def strOf (s : List Nat) : PySem.Str := ⟨s.toArray⟩
theorem strsAre_of : ∀ {ss : List (List Nat)} {us : List Value}, Vals (ss.map fun s => V.str (strOf s)) us → StrsAre us (ss.map strOf)
  | [], us, r => by cases r; exact .nil
  | s :: ss, us, r => by
    cases r with
    | cons q t =>
      obtain ⟨u, e⟩ := q
      subst e
      exact .cons _ _ (strsAre_of t)
theorem strOf_eq (a b : List Nat) : (strOf a == strOf b) = decide (a = b) := by
  by_cases h : a = b
  · subst h; simp
  · have : strOf a ≠ strOf b := fun e => h (by
      have := congrArg (fun z : PySem.Str => z.cps.toList) e
      simpa [strOf] using this)
    rw [decide_eq_false h]
    exact beq_false_of_ne this
theorem countIn_strs (k : List Nat) : ∀ ss : List (List Nat), countIn (.str (strOf k)) ((ss.map strOf).map PyData.str) = ((ss.count k : Nat) : Int)
  | [] => rfl
  | s :: ss => by
    have e : same (.str (strOf s)) (.str (strOf k)) = decide (s = k) := (show same (.str (strOf s)) (.str (strOf k)) = (strOf s == strOf k) from rfl).trans (strOf_eq s k)
    rw [List.map_cons, List.map_cons, countIn, countIn_strs k ss, List.count_cons]
    by_cases h : s = k
    · rw [if_pos (by rw [e]; exact decide_eq_true h), if_pos (by simp [h])]
      omega
    · rw [if_neg (by rw [e]; simp [h]), if_neg (by simp [h])]
      omega
def rCntB (K : PySem.W.Frag) : V → List V → Hp → VK → Prop := fun x xs H Q => ∃ (p : Addr), x = .ref p ∧ ((∃ (bs : List Bool) (k : Bool), xs = [.bl k] ∧ SqL K H p (bs.map V.bl) ∧ Q (.int (bs.count k : Nat)) H) ∨
  (∃ (ss : List (List Nat)) (k : List Nat), xs = [.str (strOf k)] ∧ SqL K H p (ss.map fun s => V.str (strOf s)) ∧ Q (.int (ss.count k : Nat)) H))
theorem mt_cntB : MtR X "list.count" (rCntB X.K) := by
  intro pins s σ H x xs v us Q I rx rxs h
  obtain ⟨p, rfl, h⟩ := h
  cases rx
  rcases h with ⟨bs, k, rfl, hs, q⟩ | ⟨ss, k, rfl, hs, q⟩
  · obtain ⟨u, rfl, ru⟩ := rxs.one
    cases ru
    obtain ⟨its, rv, hl, hz⟩ := I.list hs
    refine count_list_bools (hp := s.heap) hl.isList (readsAll_bls rv) (has_bls bs) ?_
    rw [countIn_bls]
    exact ⟨.int (bs.count k : Nat), H, I.tok _, ⟨s.toks, rfl⟩, q⟩
  · obtain ⟨u, rfl, ru⟩ := rxs.one
    obtain ⟨t, rfl⟩ := ru
    obtain ⟨its, rv, hl, hz⟩ := I.list hs
    refine count_list_strs hl.isList (strsAre_of rv) ?_
    rw [countIn_strs]
    exact ⟨.int (ss.count k : Nat), H, I.tok _, ⟨s.toks, rfl⟩, q⟩
def dIntB : List D → Option D
  | [.bl k] => some (.int (if k = true then 1 else 0))
  | _ => none
theorem callS_intB : CallS X G (.type "int") dIntB := by
  intro pins s σ H xs us Q I r ⟨w, ds, z, eH, ok, rb, eg, gv⟩
  subst eH
  unfold dIntB at eg
  split at eg
  · rename_i k
    cases eg
    obtain ⟨v, rfl, r1⟩ := rep1 rb
    rw [repB_bl r1] at r
    exact call_int1 pins s σ _ _ us Q I r (.inr ⟨k, rfl, giv_here ok gv (.int _)⟩)
  · cases eg
def isLst : Option Sl → Bool
  | some (.ml _) => true
  | some (.fz (.lst _)) => true
  | _ => false
def txtsOf : List D → Option (List (List Nat))
  | [] => some []
  | .str s :: xs => (txtsOf xs).map fun ss => s :: ss
  | _ => none
theorem txtsOf_eq : ∀ {xs : List D} {ss : List (List Nat)}, txtsOf xs = some ss → xs = ss.map .str
  | [], ss, e => by cases e; rfl
  | d :: xs, ss, e => by
    cases d with
    | str s =>
      obtain ⟨ss', e2, rfl⟩ := Option.map_eq_some_iff.mp (show (txtsOf xs).map _ = some ss from e)
      rw [txtsOf_eq e2]; rfl
    | _ => cases e
theorem txtsOf_map : ∀ ss : List (List Nat), txtsOf (ss.map .str) = some ss
  | [] => rfl
  | s :: ss => by
    show (txtsOf (ss.map .str)).map (fun z => s :: z) = _
    rw [txtsOf_map ss]; rfl
def dCnt (l d : D) : Option D := match l, d with
  | .lst xs, .bl k => (blsOf xs).map fun bs => .int (bs.count k : Nat)
  | .lst xs, .str k => (txtsOf xs).map fun ss => .int (ss.count k : Nat)
  | _, _ => none
def cntM (i : Nat) (m : M D) : M D := fun st => if isLst st[i]? = true then (bindM m fun d => bindM (seeM i) fun l => liftM (dCnt l d)) st else .bad
theorem lst_see {K : PySem.W.Frag} (r : Rel K G w st σ) (h : isLst st[i]? = true) : ∃ a vs, σ[i]? = some (some (.ref a)) ∧ w.H a = some (.lst vs) := by
  cases es : (st[i]? : Option Sl) with
  | none => rw [es] at h; cases h
  | some s =>
    rw [es] at h
    cases s with
    | ml ks =>
      obtain ⟨y, hy, a, vs, rfl, k, hh, q⟩ := r.at_ i _ es
      exact ⟨a, vs, hy, hh⟩
    | fz d =>
      cases d with
      | lst ks =>
        obtain ⟨y, hy, v, rfl, q⟩ := r.at_ i _ es
        cases q with
        | lst q1 q2 => exact ⟨_, _, hy, r.ok.sub _ _ q1⟩
      | _ => cases h
    | _ => cases h
theorem snd_cnt {m : M D} (h : SndD G X W e m) (hN : X.N[i]? = some x := by rfl) (hv : Vis X.env.scope x := by first | exact Or.inl rfl | exact Or.inr (Or.inl rfl) | exact Or.inr (Or.inr rfl))
    (hd : (x == ("__debug__" : Str)) = false := by decide) (hcd : (x == ("__classdict__" : Str)) = false := by decide)
    (hbase : attributeBase (.Name x np) "count" X.env (eval (.Name x np) X.env) = eval (.Name x np) X.env := by rfl)
    (hfew : ((backTo cpos (starEach [e] X.env)).all (fun x => !x.1) && (backToKw cpos (keywordEach [] X.env)).all (fun x => x.1.isSome)
      && decide ([e].length + ([] : List Keyword).length + (if ([] : List Keyword).isEmpty then 0 else 1) < 30)) = true := by rfl)
    (hline : (apos.endLine == cpos.line) = true := by rfl) (hs : starEach [e] X.env = (false, eval e X.env) :: starEach [] X.env := by rfl) :
    SndD G X W (.Call (.Attribute (.Name x np) "count" apos) [e] [] cpos) (cntM i m) := by
  intro w st σ Q r p
  unfold cntM at p
  by_cases hc : isLst st[i]? = true
  · rw [if_pos hc] at p
    obtain ⟨a, vs0, hσ, h0⟩ := lst_see r hc
    refine RunE.of (pe_bm F.plainAttrs_list PySem.F.slot_list_count PySem.F.type_list_count mt_cntB (pe_var hN hv hd hcd) (pa_cons (pe_run (e := e)) pa_nil hs) hbase hfew hline hs rfl) ?_
    refine ⟨.ref a, hσ, .inl ⟨rfl, vs0, .inl (.inl h0)⟩, ?_⟩
    refine Snd.bind (run1 := RunE X e) h older_D r p fun d u w1 st1 r1 s1 q1 p1 => ?_
    rw [bindM] at p1
    rcases see_cases st1 i with e1 | ⟨s, es, hs', e1⟩
    · rw [e1] at p1; exact p1.elim
    · rw [e1] at p1
      obtain ⟨v, hv', rb⟩ := see_rel r1 es hs'
      rw [hσ] at hv'
      cases hv'
      have p2 : Post X.K G (RD X.K G) w1 σ W ((liftM (dCnt s.toD d) : M D) st1) Q := p1
      generalize s.toD = l at rb p2
      cases eg : dCnt l d with
      | none => rw [eg] at p2; exact p2.elim
      | some z =>
        rw [eg] at p2
        cases l with
        | lst xs =>
          cases d with
          | bl k =>
            obtain ⟨bs, e2, rfl⟩ := Option.map_eq_some_iff.mp (show (blsOf xs).map _ = some z from eg)
            obtain rfl := blsOf_eq e2
            obtain ⟨a', vs', e3, hh, rr⟩ := repB_lst r1.ok rb
            cases e3
            cases q1
            have ev : vs' = bs.map V.bl := by
              have : ∀ (bs : List Bool) (vs : List V), RepL X.K G w1.F vs (bs.map D.bl) → vs = bs.map V.bl := by
                intro bs
                induction bs with
                | nil => intro vs r; cases r; rfl
                | cons b bs ih =>
                  intro vs r
                  cases r with
                  | cons q t => cases q; rw [ih _ t]; rfl
              exact this bs vs' rr
            subst ev
            exact ⟨a, rfl, .inl ⟨bs, k, rfl, .inl (.inl hh), p2 _ w1 r1 (Step.refl _) (.int _)⟩⟩
          | str k =>
            obtain ⟨ss, e2, rfl⟩ := Option.map_eq_some_iff.mp (show (txtsOf xs).map _ = some z from eg)
            obtain rfl := txtsOf_eq e2
            obtain ⟨a', vs', e3, hh, rr⟩ := repB_lst r1.ok rb
            cases e3
            cases q1
            have ev : vs' = ss.map fun s => V.str (strOf s) := by
              have : ∀ (ss : List (List Nat)) (vs : List V), RepL X.K G w1.F vs (ss.map D.str) → vs = ss.map fun s => V.str (strOf s) := by
                intro ss
                induction ss with
                | nil => intro vs r; cases r; rfl
                | cons b bs ih =>
                  intro vs r
                  cases r with
                  | cons q t => cases q; rw [ih _ t]; rfl
              exact this ss vs' rr
            subst ev
            exact ⟨a, rfl, .inr ⟨ss, k, rfl, .inl (.inl hh), p2 _ w1 r1 (Step.refl _) (.int _)⟩⟩
          | _ => cases eg
        | _ => cases d <;> cases eg
  · rw [if_neg hc] at p; exact p.elim
end
section
@[simp] theorem dgetM_md (g : D → List D → Option D) (i : Nat) (ml : M (List D)) (st : Env) (h : isDct st[i]? = true) : dgetM g i ml st = (ml st).bind fun ds => bindM (seeM i) fun d => liftM (g d ds) := by
  unfold dgetM; rw [if_pos h]; rfl
@[simp] theorem cntM_ap (i : Nat) (m : M D) (st : Env) (h : isLst st[i]? = true) : cntM i m st = (m st).bind fun d => bindM (seeM i) fun l => liftM (dCnt l d) := by
  unfold cntM; rw [if_pos h]; rfl
end
end Rz
namespace Rz
open PySem PySem.Spec PyProof.Rows L2
section
variable {G : Nat → Addr} {X : Cx} {W : WX} {pr : List Nat} {pos : Pos}
theorem FrL.keep {K : PySem.W.Frag} {w0 w w' : Wd} (s : Step w w') : ∀ {vs : List V} {ss : List Sl}, FrL K G w0 w vs ss → FrL K G w0 w' vs ss
  | _, _, .nil => .nil
  | _, _, .cons r n t => .cons (r.keep s) n (FrL.keep s t)
theorem puts_runT {K : PySem.W.Frag} {Dn : Ends} {is : List Nat} {w0 w : Wd} {st : Env} {σ : L2.St} {ml : M (List Sl)} {run : L2.St → Hp → (List V → Hp → Prop) → Prop} (hp : ∀ i ∈ is, i ∉ pr) (h : Snd K G run (FrL K G) W ml) (ok0 : w0.Ok) (r : Rel K G w st σ) (s : Step w0 w)
    (p : PostS K G w0 w.F pr σ W (putsM is ml st) Dn) : run σ w.H fun vs H1 => vs.length = is.length ∧ ∀ q, H1 q = none → Dn.nx (setsS σ is vs) (upd H1 q (.tup vs)) := by
  refine Snd.stmt h r s p fun ss vs w1 st1 r1 s1 sw q1 p1 => ?_
  have p1 : PostS K G w0 w1.F pr σ W (if ss.length = is.length then Out.ok Fl.nx (putsE st1 is ss) else .bad) Dn := p1
  by_cases hl : ss.length = is.length
  · rw [if_pos hl] at p1
    refine ⟨by rw [q1.length]; exact hl, fun q hq => ?_⟩
    have g := Wd.new_grw (o := .tup vs) hq
    have ok1 := Wd.new_ok (o := .tup vs) r1.ok hq
    have s2 := g.step r1.ok
    obtain ⟨w2, e1, e2, r2, s3⟩ := Rel.puts (is := is) ok0 (fun a ha => s.d a ha) (r1.grow ok1 g) (s1.trans r1.ok ok1 s2) (q1.keep s2)
    have e3 : w2.H = upd w1.H q (.tup vs) := e1
    rw [← e3]
    exact p1 w2 _ r2 s3 (by rw [e2]; exact g.f) (Kept.sets hp)
  · rw [if_neg hl] at p1; exact p1.elim
theorem sc_parT {i j : Nat} {x y : Str} {a b : Expr} {ml : M (List Sl)} {px py pt : Pos} {kt k2 pt2} (hc : X.calm = true) (hN : X.N.Nodup) (hi : X.N[i]? = some x) (hj : X.N[j]? = some y)
    (hx : Loc X.env.scope x) (hy : Loc X.env.scope y) (hpi : i ∉ pr) (hpj : j ∉ pr) (h : SndVL G X W [a, b] ml) (ha : PA X [a, b] (RunL X [a, b]))
    (fx : X.fn x = true ∨ X.env.scope.names.lookup x = some .local := by first | exact .inl rfl | exact .inr rfl | assumption)
    (fy : X.fn y = true ∨ X.env.scope.names.lookup y = some .local := by first | exact .inl rfl | exact .inr rfl | assumption)
    (hs : swapsWithSole [.Tuple [.Name x px, .Name y py] kt pt] (.Tuple [a, b] k2 pt2) pos.line X.env = pure false := by rfl)
    (hw : swappedStores [.Tuple [.Name x px, .Name y py] kt pt] (.Tuple [a, b] k2 pt2) X.env = pure none := by rfl) :
    SndC G X W pr (.Assign [.Tuple [.Name x px, .Name y py] kt pt] (.Tuple [a, b] k2 pt2) pos) (putsM [i, j] ml) := by
  intro w0 w st σ D ok0 r s own p
  refine RunS.of (ps_asg (pe_tup ha) (pg_tup hc (pgs_cons (pg_name hN hi hx fx) (pgs_cons (pg_name hN hj hy fy) pgs_nil))) hs hw) ?_
  have h2 := puts_runT (run := RunL X [a, b]) (is := [i, j]) (fun k hk => by
    rcases List.mem_cons.mp hk with rfl | hk
    · exact hpi
    · rcases List.mem_cons.mp hk with rfl | hk
      · exact hpj
      · cases hk) h ok0 r s p
  refine RunL.mono h2 fun vs H1 ⟨hl, q⟩ => ?_
  match vs, hl, q with
  | [v, u], _, q => exact ⟨by rw [sizeLine_eq]; show 2 ≤ _; decide, fun p hp => ⟨p, [v, u], rfl, .inl (.inl upd_same), rfl, v, [u], rfl, u, [], rfl, rfl, q p hp⟩⟩
theorem sc_parT3 {i j l : Nat} {x y z : Str} {a b c : Expr} {ml : M (List Sl)} {px py pz pt : Pos} {kt k2 pt2} (hc : X.calm = true) (hN : X.N.Nodup) (hi : X.N[i]? = some x) (hj : X.N[j]? = some y) (hl : X.N[l]? = some z)
    (hx : Loc X.env.scope x) (hy : Loc X.env.scope y) (hz : Loc X.env.scope z) (hpi : i ∉ pr) (hpj : j ∉ pr) (hpl : l ∉ pr) (h : SndVL G X W [a, b, c] ml) (ha : PA X [a, b, c] (RunL X [a, b, c]))
    (fx : X.fn x = true ∨ X.env.scope.names.lookup x = some .local := by first | exact .inl rfl | exact .inr rfl | assumption)
    (fy : X.fn y = true ∨ X.env.scope.names.lookup y = some .local := by first | exact .inl rfl | exact .inr rfl | assumption)
    (fz : X.fn z = true ∨ X.env.scope.names.lookup z = some .local := by first | exact .inl rfl | exact .inr rfl | assumption)
    (hs : swapsWithSole [.Tuple [.Name x px, .Name y py, .Name z pz] kt pt] (.Tuple [a, b, c] k2 pt2) pos.line X.env = pure false := by rfl)
    (hw : swappedStores [.Tuple [.Name x px, .Name y py, .Name z pz] kt pt] (.Tuple [a, b, c] k2 pt2) X.env = pure none := by rfl) :
    SndC G X W pr (.Assign [.Tuple [.Name x px, .Name y py, .Name z pz] kt pt] (.Tuple [a, b, c] k2 pt2) pos) (putsM [i, j, l] ml) := by
  intro w0 w st σ D ok0 r s own p
  refine RunS.of (ps_asg (pe_tup ha) (pg_tup hc (pgs_cons (pg_name hN hi hx fx) (pgs_cons (pg_name hN hj hy fy) (pgs_cons (pg_name hN hl hz fz) pgs_nil)))) hs hw) ?_
  have h2 := puts_runT (run := RunL X [a, b, c]) (is := [i, j, l]) (fun k hk => by
    simp only [List.mem_cons, List.not_mem_nil, or_false] at hk
    rcases hk with rfl | rfl | rfl
    · exact hpi
    · exact hpj
    · exact hpl) h ok0 r s p
  refine RunL.mono h2 fun vs H1 ⟨hl, q⟩ => ?_
  match vs, hl, q with
  | [v, u, t], _, q => exact ⟨by rw [sizeLine_eq]; show 3 ≤ _; decide, fun p hp => ⟨p, [v, u, t], rfl, .inl (.inl upd_same), rfl, v, [u, t], rfl, u, [t], rfl, t, [], rfl, rfl, q p hp⟩⟩
theorem sc_parT4 {i j l m : Nat} {x y z w : Str} {a b c d : Expr} {ml : M (List Sl)} {px py pz pw pt : Pos} {kt k2 pt2} (hc : X.calm = true) (hN : X.N.Nodup) (hi : X.N[i]? = some x) (hj : X.N[j]? = some y) (hl : X.N[l]? = some z) (hm : X.N[m]? = some w)
    (hx : Loc X.env.scope x) (hy : Loc X.env.scope y) (hz : Loc X.env.scope z) (hw0 : Loc X.env.scope w) (hpi : i ∉ pr) (hpj : j ∉ pr) (hpl : l ∉ pr) (hpm : m ∉ pr) (h : SndVL G X W [a, b, c, d] ml) (ha : PA X [a, b, c, d] (RunL X [a, b, c, d]))
    (fx : X.fn x = true ∨ X.env.scope.names.lookup x = some .local := by first | exact .inl rfl | exact .inr rfl | assumption)
    (fy : X.fn y = true ∨ X.env.scope.names.lookup y = some .local := by first | exact .inl rfl | exact .inr rfl | assumption)
    (fz : X.fn z = true ∨ X.env.scope.names.lookup z = some .local := by first | exact .inl rfl | exact .inr rfl | assumption)
    (fw : X.fn w = true ∨ X.env.scope.names.lookup w = some .local := by first | exact .inl rfl | exact .inr rfl | assumption)
    (hs : swapsWithSole [.Tuple [.Name x px, .Name y py, .Name z pz, .Name w pw] kt pt] (.Tuple [a, b, c, d] k2 pt2) pos.line X.env = pure false := by rfl)
    (hw : swappedStores [.Tuple [.Name x px, .Name y py, .Name z pz, .Name w pw] kt pt] (.Tuple [a, b, c, d] k2 pt2) X.env = pure none := by rfl) :
    SndC G X W pr (.Assign [.Tuple [.Name x px, .Name y py, .Name z pz, .Name w pw] kt pt] (.Tuple [a, b, c, d] k2 pt2) pos) (putsM [i, j, l, m] ml) := by
  intro w0 w st σ D ok0 r s own p
  refine RunS.of (ps_asg (pe_tup ha) (pg_tup hc (pgs_cons (pg_name hN hi hx fx) (pgs_cons (pg_name hN hj hy fy) (pgs_cons (pg_name hN hl hz fz) (pgs_cons (pg_name hN hm hw0 fw) pgs_nil))))) hs hw) ?_
  have h2 := puts_runT (run := RunL X [a, b, c, d]) (is := [i, j, l, m]) (fun k hk => by
    simp only [List.mem_cons, List.not_mem_nil, or_false] at hk
    rcases hk with rfl | rfl | rfl | rfl
    · exact hpi
    · exact hpj
    · exact hpl
    · exact hpm) h ok0 r s p
  refine RunL.mono h2 fun vs H1 ⟨hl, q⟩ => ?_
  match vs, hl, q with
  | [v, u, t, o], _, q => exact ⟨by rw [sizeLine_eq]; show 4 ≤ _; decide, fun p hp => ⟨p, [v, u, t, o], rfl, .inl (.inl upd_same), rfl, v, [u, t, o], rfl, u, [t, o], rfl, t, [o], rfl, o, [], rfl, rfl, q p hp⟩⟩
end
end Rz
namespace Rz
open PySem PySem.Spec PyProof.Rows L2 NdefX ClX
theorem tup0B_ok {K : PySem.W.Frag} {G : Nat → Addr} {a : Addr} (h : tup0B K a = true) (F : Hp) : Rep K G F (.ref a) (.tup []) := by
  unfold tup0B at h
  split at h
  · rename_i c od its n osl hl
    rw [Bool.and_eq_true] at h
    have hc := of_decide_eq_true h.1
    subst hc
    have he : its.toList = [] := List.isEmpty_iff.mp h.2
    refine .tup (vs := []) (.inr ⟨_, its, n, hl, rfl, rfl, ?_, ?_⟩) .nil
    · have : its.size = 0 := by rw [← Array.length_toList, he]; rfl
      rw [this]; exact Nat.zero_le _
    · rw [he]; exact .nil
  · cases h
structure FnHK (P : Program) (w : World) (K : PySem.W.Frag) (mg : Str → Option Value) (base : Heap) (G : Nat → Addr) (k : Nat) (x kx : Str) (n : Nat) (io : List Nat) (f : Env → Res) : Prop where
  ex : ∃ (fa : Addr) (fd : FuncData) (ps : List Str) (ds : List Value) (T : Addr), mg x = some (.ref fa) ∧ PySem.W.keepIn K (.ref fa) = true ∧ Binds K fd ps ds ∧ Vals [V.ref T] ds ∧ (∀ F : Hp, Rep K G F (.ref T) (.tup [])) ∧ ps.length = n + 1 ∧ (∀ i ∈ io, i < n) ∧
    KBn K fd ps n [kx] (fun us ws => us ++ ws) (fun vs zs => vs ++ zs) ∧ FnOk P w K mg base (L2.CX P w) k fa fd ps (spM K G (n + 1) io f)
section
variable {P : Program} {w : World} {K : PySem.W.Frag} {mg : Str → Option Value} {base : Heap} {k n : Nat} {f T : Addr} {fd : FuncData} {x kx qual : Str} {params : Arguments} {body : List Stmt} {scope : Scope} {N ps : List Str} {G : Nat → Addr} {io : List Nat} {m : M Fl}
theorem FnHK.of (F : FunD K x qual params body scope [] [(kx, V.ref T)] f fd) (ht : tup0B K T = true) (S : FnScope N ps scope) (hn : ps.length = n + 1) (hio : ∀ i ∈ io, i < n) (hm : mg x = some (.ref f))
    (h0 : ∀ (D : Addr) (doc pm : Value) (an : Option Addr) (cdv ct : Value) (us ks : List Value), us.length = n → ks.length = 1 →
      KwChain D (([(kx, V.ref T)].map (·.1)).zip ks) (bindArgs (PySem.W.fnOf x qual params body scope .none (.ref D) doc pm an cdv ct) ⟨us, []⟩) (ps.zip (us ++ ks)))
    (h1 : ∀ (kV doc pm : Value) (an : Option Addr) (cdv ct : Value) (us ws : List Value), us.length = n → ws.length = 1 → bindArgs (PySem.W.fnOf x qual params body scope .none kV doc pm an cdv ct) ⟨us, [kx].zip ws⟩ = pure (ps.zip (us ++ ws)))
    (hbody : ∀ (cdv : Value) (A : Around) (outer : List PySem.Env) (s : Shared) (H : Hp) (E : XK), Room k (A.deeper (envOfC qual scope s.heap.objs.size f cdv)) → SndB G (cxOf (L2.CX P w) P w K mg base N qual scope f cdv A outer s H E) (WXE E) io body m) :
    FnHK P w K mg base G (k + 1) x kx n io (bodyF N.length io m) := by
  obtain ⟨ds, hd, hb⟩ := F.binds0 (ps := ps) n (by simp) (by rw [hn]; rfl) (by simpa using h0)
  refine ⟨⟨f, fd, ps, ds, T, hm, F.kp, hb, hd, fun F => tup0B_ok ht F, hn, hio, ?_, ?_⟩⟩
  · obtain ⟨oc, od, dV, kV, doc, pm, an, cdv, ct, osl, rfl, lk, hcd, hD, hK⟩ := F.ex
    rcases hD with ⟨_, rfl⟩ | ⟨e, _⟩
    · exact ⟨fun s us ws X l1 l2 => .of_eq (h1 kV doc pm an cdv ct us ws l1 l2), fun r1 r2 => r1.append r2⟩
    · exact absurd rfl e
  · have := okF_of (P := P) (w := w) (mg := mg) (base := base) (G := G) F S (fun i hi => by have := hio i hi; omega) hbody
    rw [hn] at this
    exact this
end
def dfl0 (f : Env → Res) : Env → Res := fun args => f (args ++ [.fz (.tup [])])
theorem sp_dfl {K : PySem.W.Frag} {G : Nat → Addr} {n : Nat} {io : List Nat} {f : Env → Res} {vs : List V} {v : V} {H : Hp} {Q : VK} {E : XK} (hr : ∀ F : Hp, Rep K G F v (.tup [])) (hio : ∀ i ∈ io, i < n) (h : spM K G n io (dfl0 f) vs H Q E) : spM K G (n + 1) io f (vs ++ [v]) H Q E := by
  obtain ⟨hl, w, args, e, ok, ⟨a1, a2, a3⟩, own, h⟩ := h
  refine ⟨by rw [List.length_append, hl]; rfl, w, args ++ [.fz (.tup [])], e, ok, ⟨by rw [List.length_append, List.length_append, a1]; rfl, fun i s hs => ?_, a3⟩, own, ?_⟩
  · by_cases hi : i < args.length
    · rw [List.getElem?_append_left hi] at hs
      obtain ⟨u, h1, h2⟩ := a2 i s hs
      exact ⟨u, by rw [List.getElem?_append_left (by omega)]; exact h1, h2⟩
    · rw [List.getElem?_append_right (by omega)] at hs
      have : i = args.length := by
        have := (List.getElem?_eq_some_iff.mp hs).1
        simp at this
        omega
      subst this
      simp at hs
      subst hs
      exact ⟨v, by rw [← a1, List.getElem?_append_right (Nat.le_refl _)]; simp, v, rfl, hr _⟩
  · have out : ∀ {w' : Wd} {o : Env}, OutR K G w' (vs ++ [v]) io o → OutR K G w' vs io o := fun ho j i s hj hs => by
      obtain ⟨u, h1, h2⟩ := ho j i s hj hs
      have hi := hio i (List.mem_of_getElem? hj)
      rw [List.getElem?_append_left (by omega)] at h1
      exact ⟨u, h1, h2⟩
    unfold dfl0 at h
    cases e : f (args ++ [.fz (.tup [])]) with
    | ret u o => rw [e] at h; exact fun u' w' ok' s' q h' => h u' w' ok' s' q (out h')
    | exc y o => rw [e] at h; exact fun c d w' ok' s' q h' => h c d w' ok' s' q (out h')
    | bad => rw [e] at h; exact h
def snocA (ma : M (List Ag)) (mz : M (List D)) : M (List Ag) := bindM ma fun as => bindM mz fun ds => pureM (as ++ ds.map .d)
theorem AgL.ofL {K : PySem.W.Frag} {G : Nat → Addr} {σ : L2.St} {w : Wd} : ∀ {us : List V} {ds : List D}, RepL K G w.F us ds → AgL K G σ w us (ds.map .d)
  | _, _, .nil => .nil
  | _, _, .cons r t => .cons r (AgL.ofL t)
theorem AgL.append {K : PySem.W.Frag} {G : Nat → Addr} {σ : L2.St} {w : Wd} : ∀ {vs : List V} {as : List Ag} {us : List V} {ds : List D}, AgL K G σ w vs as → RepL K G w.F us ds → AgL K G σ w (vs ++ us) (as ++ ds.map .d)
  | _, _, _, _, .nil, r => AgL.ofL r
  | _, _, _, _, .cons r t, q => .cons r (t.append q)
theorem AgL.mono {K : PySem.W.Frag} {G : Nat → Addr} {σ : L2.St} {w w' : Wd} (f : Same w.F w'.F) : ∀ {vs : List V} {as : List Ag}, AgL K G σ w vs as → AgL K G σ w' vs as
  | _, _, .nil => .nil
  | _, _, .cons r t => .cons (AgR.mono f r) (t.mono f)
section
variable {G : Nat → Addr} {X : Cx} {W : WX} {es : List Expr} {e : Expr} {kws : List Keyword} {p pos : Pos} {f : Env → Res} {io : List Nat} {k j n : Nat} {x kx : Str} {ma : M (List Ag)} {mz : M (List D)}
theorem snd_callD (tk : Takes X W) (F : FnHK X.prog X.w X.K X.mg X.base G j x kx n io f) (hr : Room k X.A) (hj : j ≤ k) (hl : SndA G X W (e :: es) ma) (hn : (e :: es).length = n) (ha : PA X (e :: es) (RunL X (e :: es))) (hg : Gl X x := by rfl)
    (hdb : (x == ("__debug__" : Str)) = false := by decide) (he : starEach (e :: es) X.env = (false, eval e X.env) :: starEach es X.env := by rfl) (hpl : (backTo pos (starEach es X.env)).any (·.1) = false := by rfl) :
    SndV G X W (.Call (.Name x p) (e :: es) [] pos) (callM (dfl0 f) io ma) := by
  obtain ⟨fa, fd, ps, ds, T, hm, hk, hb, hd, hT, hps, hio, _, F⟩ := F.ex
  intro w st σ Q r pq; refine ⟨fun pins s I => ?_⟩
  have h1 : RunL X (e :: es) σ w.H fun us H => spM X.K G n io (dfl0 f) us H Q (WE W σ) := by
    refine RunL.len ?_
    rw [hn]
    exact args_then hl r pq n
  refine wpAny_Call_Name_kw (ld_glob I hg hm ?_ hdb)
  refine PySem.W.callWith_K (h₀ := X.base) I.ok.mod.kin hk (thn (ha.run pos pins s σ w.H _ I h1) fun us s1 ⟨vs, H1, I1, r, q⟩ => ⟨I1.kIn, ?_⟩) he hpl
  have q2 := sp_dfl hT hio q
  have r2 : Vals (vs ++ [V.ref T]) (us ++ ds) := r.append hd
  have hl2 : (us ++ ds).length = ps.length := by rw [← r2.length]; exact F.len _ _ _ _ q2
  refine wpAny_call (codeAny_mono (F.run X.A X.stack s1 H1 ⟨us, []⟩ (us ++ ds) (vs ++ [V.ref T]) Q (WE W σ) (hr.mono hj) I1.env0 (hb s1 us I1.kIn hl2) r2 q2) fun r s' hq => ?_)
  cases r with
  | error e => exact passAt tk σ pins H1 s1 e s' I1 hq
  | ok fl =>
    cases fl with
    | ret u => exact I1.after hq
    | next => exact False.elim hq
    | brk => exact False.elim hq
    | cont => exact False.elim hq
theorem snd_callKw (tk : Takes X W) (F : FnHK X.prog X.w X.K X.mg X.base G j x kx n io f) (hr : Room k X.A) (hj : j ≤ k) (hl : SndA G X W (e :: es) ma) (hz : SndK G X W kws mz) (hn : (e :: es).length = n) (ha : PA X (e :: es) (RunL X (e :: es))) (hg : Gl X x := by rfl)
    (hall : (backToKw pos (keywordEach kws X.env)).all (·.1.isSome) = true := by rfl) (hkn : (backToKw pos (keywordEach kws X.env)).filterMap (·.1) = [kx] := by rfl) (hkl : kws.length = 1 := by rfl)
    (hdb : (x == ("__debug__" : Str)) = false := by decide) (hst : starEach (e :: es) X.env = (false, eval e X.env) :: starEach es X.env := by rfl)
    (hpl : ((backTo pos (starEach (e :: es) X.env)).any (·.1) || (backToKw pos (keywordEach kws X.env)).any (·.1.isNone)) = false := by rfl) :
    SndV G X W (.Call (.Name x p) (e :: es) kws pos) (callM f io (snocA ma mz)) := by
  obtain ⟨fa, fd, ps, ds, T, hm, hk, _, _, _, hps, hio, hb, F⟩ := F.ex
  intro w st σ Q r pp; refine ⟨fun pins s I => ?_⟩
  have h1 : RunL X (e :: es) σ w.H fun rv H1 => rv.length = (e :: es).length → RunK X kws σ H1 fun zs H2 => zs.length = kws.length → spM X.K G (n + 1) io f (rv ++ zs) H2 Q (WE W σ) := by
    refine hl w st σ _ r ?_
    unfold callM snocA bindM at pp
    cases e1 : ma st with
    | bad => rw [e1] at pp; exact pp
    | exc y st1 => rw [e1] at pp; exact pp
    | ok as st1 =>
      rw [e1] at pp
      intro rv w1 r1 s1 q1 hrl
      refine hz w1 st1 σ _ r1 ?_
      have pp : Post X.K G (RV X.K G) w σ W (match (mz st1).bind fun ds => pureM (as ++ ds.map Ag.d) with
        | .ok as st1 => if agsOk st1 as io = true then (match f (as.map (slOf st1)) with
          | .ret v o => if o.length = io.length then .ok v (backs st1 as io o) else .bad
          | .exc x o => if o.length = io.length then .exc x (backs st1 as io o) else .bad
          | .bad => .bad) else .bad
        | .exc x st1 => .exc x st1
        | .bad => .bad) Q := pp
      cases e2 : mz st1 with
      | bad => rw [e2] at pp; exact pp
      | exc y st2 => rw [e2] at pp; exact fun c' d' w2 r2 s2 q2 => pp c' d' w2 r2 (s1.trans r1.ok r2.ok s2) q2
      | ok zd st2 =>
        rw [e2] at pp
        intro zs w2 r2 s2 q2 hzl
        have pp : Post X.K G (RV X.K G) w σ W (if agsOk st2 (as ++ zd.map Ag.d) io = true then (match f ((as ++ zd.map Ag.d).map (slOf st2)) with
          | .ret v o => if o.length = io.length then Out.ok v (backs st2 (as ++ zd.map Ag.d) io o) else .bad
          | .exc x o => if o.length = io.length then .exc x (backs st2 (as ++ zd.map Ag.d) io o) else .bad
          | .bad => .bad) else .bad) Q := pp
        by_cases hok : agsOk st2 (as ++ zd.map Ag.d) io = true
        · rw [if_pos hok] at pp
          exact sp_of (w0 := w) r2 ((q1.mono s2.f).append q2) hok (n + 1) (by rw [List.length_append, hrl, hzl, hn, hkl]) (Post.shift r2.ok (s1.trans r1.ok r2.ok s2) older_V pp)
        · rw [if_neg hok] at pp; exact pp.elim
  have h2 := RunL.len h1
  refine wpAny_Call_Name_kw (ld_glob I hg hm ?_ hdb)
  refine PySem.W.callWith_KW (h₀ := X.base) I.ok.mod.kin hk hall (thn (ha.run pos pins s σ w.H _ I h2) fun us s1 ⟨rv, H1, I1, ru, q⟩ => ?_) hpl hst
  refine thn (q pos pins s1 _ I1 rfl) fun ws s2 ⟨zs, H2, I2, rz, lz, q2⟩ => ⟨I2.kIn, ?_⟩
  rw [hkn]
  have q3 := q2 lz
  have hrv : rv.length = n := by
    have := F.len _ _ _ _ q3
    rw [List.length_append, lz, hkl, hps] at this
    omega
  refine wpAny_call (codeAny_mono (F.run X.A X.stack s2 H2 ⟨us, [kx].zip ws⟩ (us ++ ws) (rv ++ zs) Q (WE W σ) (hr.mono hj) I2.env0 (hb.to s2 us ws I2.kIn (ru.length.symm.trans hrv) (rz.length.symm.trans (lz.trans hkl))) (hb.rel ru rz) q3) fun r s' hq => ?_)
  cases r with
  | error e => exact passAt tk σ pins H2 s2 e s' I2 hq
  | ok fl =>
    cases fl with
    | ret u => exact I2.after hq
    | next => exact False.elim hq
    | brk => exact False.elim hq
    | cont => exact False.elim hq
end
end Rz
namespace Rz
open PySem PySem.Spec PyProof.Rows L2 NdefX ClX
theorem RepL.app {K : PySem.W.Frag} {G : Nat → Addr} {F : Hp} : ∀ {vs us : List V} {ds es : List D}, RepL K G F vs ds → RepL K G F us es → RepL K G F (vs ++ us) (ds ++ es)
  | _, _, _, _, .nil, r => r
  | _, _, _, _, .cons q t, r => .cons q (t.app r)
theorem RepL.rev {K : PySem.W.Frag} {G : Nat → Addr} {F : Hp} : ∀ {vs : List V} {ds : List D}, RepL K G F vs ds → RepL K G F vs.reverse ds.reverse
  | _, _, .nil => .nil
  | _, _, .cons q t => by
    rw [List.reverse_cons, List.reverse_cons]
    exact t.rev.app (.cons q .nil)
theorem RepL.rep {K : PySem.W.Frag} {G : Nat → Addr} {F : Hp} {vs : List V} {ds : List D} (r : RepL K G F vs ds) : ∀ n : Nat, RepL K G F (List.replicate n vs).flatten (List.replicate n ds).flatten
  | 0 => .nil
  | n + 1 => by
    rw [List.replicate_succ, List.replicate_succ, List.flatten_cons, List.flatten_cons]
    exact r.app (RepL.rep r n)
def repM (ml : M (List D)) : M Sl := bindM ml fun ds => match ds with
  | [.lst xs, .int k] => if k < 1048576 ∧ -1048576 < k ∧ xs.length * k.toNat ≤ 16777216 then pureM (.ml (List.replicate k.toNat xs).flatten) else badM
  | _ => badM
def revM (m : M D) : M D := bindM m fun d => match d with
  | .lst xs => pureM (.lst xs.reverse)
  | _ => badM
section
variable {G : Nat → Addr} {X : Cx} {W : WX} {a b e : Expr} {pos : Pos}
theorem snd_rep {ml : M (List D)} (hl : SndL G X W [a, b] ml) : SndV G X W (.BinOp a .Mult b pos) (repM ml) := by
  intro w st σ Q r p
  refine RunE.of (pe_op op_rep pe_run pe_run) ?_
  have h := Snd.bind (run1 := RunL X [a, b]) (Q1 := fun vs H => match vs with | [x, y] => rRep x y H Q | _ => False) hl older_V r p fun ds us w1 st1 r1 s1 q1 p1 => ?_
  · exact h
  · cases q1 with
    | nil => exact p1.elim
    | cons b1 q1 =>
      cases q1 with
      | nil => rename_i d; cases d <;> exact p1.elim
      | cons b2 q1 =>
        cases q1 with
        | cons b3 q1 => rename_i x0 d0 x1 d1 x2 x3 d2 ds2; cases d0 <;> first | exact p1.elim | (cases d1 <;> exact p1.elim)
        | nil =>
          rename_i x d y d'
          cases d with
          | lst xs =>
            cases d' with
            | int k =>
              have p2 : Post X.K G (RV X.K G) w1 σ W ((if k < 1048576 ∧ -1048576 < k ∧ xs.length * k.toNat ≤ 16777216 then pureM (.ml (List.replicate k.toNat xs).flatten) else badM : M Sl) st1) Q := p1
              by_cases hk : k < 1048576 ∧ -1048576 < k ∧ xs.length * k.toNat ≤ 16777216
              · rw [if_pos hk] at p2
                obtain ⟨p, vs, rfl, hH, rr⟩ := repB_lst r1.ok b1
                rw [repB_int b2]
                refine ⟨p, k, vs, rfl, rfl, hH, by omega, by omega, by rw [rr.length, sizeLine_eq]; exact hk.2.2, fun q hq => ?_⟩
                have g := Wd.new_grw (o := .lst (List.replicate k.toNat vs).flatten) hq
                exact p2 (.ref q) (w1.new q (.lst (List.replicate k.toNat vs).flatten)) (r1.grow (Wd.new_ok r1.ok hq) g) (g.step r1.ok) ⟨q, _, rfl, hq, r1.ok.k_oth hq, upd_same, rr.rep k.toNat⟩
              · rw [if_neg hk] at p2; exact p2.elim
            | _ => exact p1.elim
          | _ => exact p1.elim
theorem snd_rev {m : M D} {k : Nat} {p1 p2 p3 : Pos} (he : SndD G X W e m) : SndD G X W (.Subscript e (.Slice none none (some (.UnaryOp .USub (.Constant (.int 1) k p1) p2)) p3) pos) (revM m) := by
  intro w st σ Q r p
  refine RunE.of (pe_revL pe_run) ?_
  refine Snd.bind (run1 := RunE X e) he older_D r p fun d u w1 st1 r1 s1 q1 p1 => ?_
  cases d with
  | lst xs =>
    have p2 : Post X.K G (RD X.K G) w1 σ W ((pureM (.lst xs.reverse) : M D) st1) Q := p1
    obtain ⟨a, vs, rfl, hH, rr⟩ := repB_lst r1.ok (.fz q1)
    exact ⟨a, vs, rfl, .inl (.inl hH), fun p hp => giv_new r1.ok (giv_of r1 p2) hp (.lst upd_same (rr.rev.mono (same_upd (r1.ok.f_none hp))))⟩
  | _ => exact p1.elim
end
section
@[simp] theorem repM_ap (ml : M (List D)) (st : Env) : repM ml st = (ml st).bind fun ds => match ds with
  | [.lst xs, .int k] => if k < 1048576 ∧ -1048576 < k ∧ xs.length * k.toNat ≤ 16777216 then pureM (.ml (List.replicate k.toNat xs).flatten) else badM
  | _ => badM := rfl
@[simp] theorem revM_ap (m : M D) (st : Env) : revM m st = (m st).bind fun d => match d with
  | .lst xs => pureM (.lst xs.reverse)
  | _ => badM := rfl
@[simp] theorem snocA_ap (ma : M (List Ag)) (mz : M (List D)) (st : Env) : snocA ma mz st = (ma st).bind fun as => bindM mz fun ds => pureM (as ++ ds.map .d) := rfl
end
end Rz
namespace Rz
open PySem PySem.Spec PyProof.Rows L2 NdefX ClX
def SndBq (G : Nat → Addr) (X : Cx) (W : WX) (pr : List Nat) (C : Addr) (i : Nat) (ss : List Stmt) (m : M Fl) : Prop := ∀ w0 w st σ D, w0.Ok → Rel X.K G w st σ → Step w0 w → (∀ a i, w0.k a = .own i → i ∈ pr) → σ[i]? = some (some (V.ref C)) → PostS X.K G w0 w.F pr σ W (m st) D → RunB X ss D σ w.H
section
variable {G : Nat → Addr} {X : Cx} {W : WX} {pr : List Nat} {C : Addr} {i ic c j k : Nat} {s : Stmt} {ss : List Stmt} {kws : List Keyword} {f : Env → Res} {fa : Addr} {ks : List Str} {mz : M (List D)} {xc xr : Str} {p pr' sp pos : Pos}
theorem sbq_cons {m m' : M Fl} (hi : i ∈ pr) (h : SndC G X W pr s m) (h' : SndBq G X W pr C i ss m') : SndBq G X W pr C i (s :: ss) (seqM m m') := by
  intro w0 w st σ D ok0 r s own hC p
  refine RunB.of (pss_cons ps_run pss_run) ?_
  refine h w0 w st σ { D with nx := RunB X ss D } ok0 r s own ?_
  unfold seqM at p
  cases q : m st with
  | ok f st' =>
    rw [q] at p
    cases f with
    | nx => exact fun w' σ' r' s' f k => h' w0 w' st' σ' D ok0 r' s' own ((k i hi).trans hC) (PostS.shift p f k)
    | bk => exact p
    | ct => exact p
    | rt v => exact p
  | exc x st' => rw [q] at p; exact p
  | bad => rw [q] at p; exact p
theorem snd_clsStar (tk : Takes X W) (M : Mk X.K (G c) fa) (FI : FnI X.prog X.w X.K X.mg X.base G j fa ks f) (hr : Room (k + 1) X.A) (hj : j ≤ k) (hNc : X.N[ic]? = some xc) (hz : SndK G X W kws mz)
    (hms : ks.length ≤ sizeLine) (hvc : Vis X.env.scope xc := by first | exact Or.inl rfl | exact Or.inr (Or.inl rfl) | exact Or.inr (Or.inr rfl)) (hall : (backToKw pos (keywordEach kws X.env)).all (·.1.isSome) = true := by rfl) (hkn : (backToKw pos (keywordEach kws X.env)).filterMap (·.1) = ks := by rfl) (hkl : kws.length = ks.length := by rfl)
    (hN : X.N[i]? = some xr := by rfl) (hv : Vis X.env.scope xr := by first | exact Or.inl rfl | exact Or.inr (Or.inl rfl) | exact Or.inr (Or.inr rfl)) (hdb : (xc == ("__debug__" : Str)) = false := by decide) (hcb : (xc == ("__classdict__" : Str)) = false := by decide)
    (hd1 : (xr == ("__debug__" : Str)) = false := by decide) (hc1 : (xr == ("__classdict__" : Str)) = false := by decide)
    (hst : starEach [.Starred (.Name xr pr') sp] X.env = [(true, eval (.Name xr pr') X.env)] := by rfl) :
    Snd X.K G (fun σ H Q => σ[ic]? = some (some (V.ref (G c))) → RunE X (.Call (.Name xc p) [.Starred (.Name xr pr') sp] kws pos) σ H Q) (RV X.K G) W (starM c i f mz) := by
  intro w st σ Q r pp hC; refine ⟨fun pins s I => ?_⟩
  unfold starM at pp
  cases h0 : (st[i]? : Option Sl).bind seqOf with
  | none => rw [h0] at pp; exact pp.elim
  | some ds0 =>
    rw [h0] at pp
    dsimp only at pp
    obtain ⟨pa, vs0, hσ, _, _⟩ := seq_at r h0
    refine wpAny_Call_Name_kw (thn ((pe_var (pos := p) hNc hvc hdb hcb).run pins s σ w.H (fun v H1 => v = .ref (G c) ∧ H1 = w.H) I ⟨_, hC, rfl, rfl⟩) fun u s1 ⟨v, H1, I, r1, q1⟩ => ?_)
    obtain ⟨rfl, rfl⟩ := q1
    cases r1
    rw [hst]
    refine kw_call (P := X.K.In) rfl (PySem.W.keeps_K M.kp) (wp_star_named hall (says_name hN hv hσ hd1 hc1 pins s1 w.H _ _ I fun u hu => ?_))
    obtain rfl : u = Value.ref pa := hu
    have hz1 : RunK X kws σ w.H fun zs H1 => zs.length = kws.length → ∃ vs, (SqT X.K H1 pa vs ∨ SqL X.K H1 pa vs) ∧ ∀ pins s us ws, Inv X pins σ H1 s → Vals vs us → Vals zs ws → wpAny (model X.prog X.w) X.A (call (.ref (G c)) us (ks.zip ws)) (EP X pins σ Q) X.xe s := by
      refine hz w st σ _ r ?_
      unfold bindM at pp
      cases e1 : mz st with
      | bad => rw [e1] at pp; exact pp
      | exc y st1 => rw [e1] at pp; exact pp
      | ok es st1 =>
        rw [e1] at pp
        intro zs w1 r1 s1 q1 hzl
        have pp : Post X.K G (RV X.K G) w σ W (match (st1[i]? : Option Sl).bind seqOf with
          | some ds => newOut c (f (.mi c [] :: (ds ++ es).map .fz)) st1
          | none => .bad) Q := pp
        cases h1 : (st1[i]? : Option Sl).bind seqOf with
        | none => rw [h1] at pp; exact pp.elim
        | some ds =>
          rw [h1] at pp
          obtain ⟨pb, vs, hσ1, hsq, rvs⟩ := seq_at r1 h1
          rw [hσ] at hσ1
          cases hσ1
          refine ⟨vs, hsq, fun pins s us ws I1 ru rz => ?_⟩
          have hvl : vs.length ≤ sizeLine := by
            rcases hsq with h | h
            · obtain ⟨_, _, _, z⟩ := I1.tuple h; exact z
            · obtain ⟨_, _, _, z⟩ := I1.list h; exact z
          exact run_makeI tk M FI hr hj r1 I1 ru rz rvs q1 (hzl.trans hkl) hvl (by rw [hzl, hkl]; exact hms) (Post.shift r1.ok s1 older_V pp)
    refine thn (hz1 pos pins s1 _ I rfl) fun ws s2 ⟨zs, H2, I2, rz, lz, q2⟩ => ?_
    obtain ⟨vs, hsq, q3⟩ := q2 lz
    refine StX.star_any I2 hsq fun us s3 I3 ru => ⟨I3.kIn, ?_⟩
    rw [hkn]
    exact q3 pins s3 us ws I3 ru rz
theorem sbq_ret {e : Expr} {m : M Sl} (h : Snd X.K G (fun σ H Q => σ[i]? = some (some (V.ref C)) → RunE X e σ H Q) (RV X.K G) W m) : SndBq G X W pr C i [.Return (some e) pos] (retM m) := by
  intro w0 w st σ D ok0 r s own hC p
  refine RunB.of (pss_one ps_run) (RunS.of (ps_ret pe_run) ?_)
  refine Snd.stmt (run1 := fun σ H Q => σ[i]? = some (some (V.ref C)) → RunE X e σ H Q) h r s p (fun d u w1 st1 r1 s1 _ q1 p1 => ?_) hC
  exact p1 u w1 σ r1 s1 (Same.refl _) (Kept.refl _ _) (older_V _ _ _ _ _ s q1)
end
def clsF (n : Nat) (m : M Fl) : Env → Res := fun args => match bodyF n [0] m (.un :: args) with
  | .ret v _ => .ret v []
  | .exc x _ => .exc x []
  | .bad => .bad
theorem bodyq_run {X : Cx} {G : Nat → Addr} {N : List Str} {body : List Stmt} {m : M Fl} {v : V} {C : Addr} {H : Hp} {Q : VK} {E : XK} (hN : 2 ≤ N.length) (hb : SndBq G X (WXE E) [0] C 0 body m)
    (h : spM X.K G 1 [] (clsF N.length m) [v] H Q E) : RunB X body { nx := fun _ H' => Q .non H', rt := Q } (L2.start N [V.ref C, v]) H := by
  obtain ⟨hl, w, args, rfl, ok, ar, own, h⟩ := h
  have hal : args.length = 1 := ar.1.symm
  have ar2 : ArgR X.K G w [V.ref C, v] (.un :: args) := ⟨by simp [hal], fun i s hs => by
    cases i with
    | zero => cases hs; exact ⟨_, rfl, trivial⟩
    | succ i =>
      obtain ⟨u, h1, h2⟩ := ar.2.1 i s (by simpa using hs)
      have hi : i = 0 := by
        have := (List.getElem?_eq_some_iff.mp h1).1
        simp at this; omega
      subst hi
      refine ⟨u, by simpa using h1, ?_⟩
      cases s with
      | un => trivial
      | fz d => exact h2
      | ml xs => obtain ⟨a, vs, e, k, _⟩ := h2; exact absurd (own a _ k) (List.not_mem_nil)
      | md xs => obtain ⟨a, vs, e, k, _⟩ := h2; exact absurd (own a _ k) (List.not_mem_nil)
      | mi c xs => obtain ⟨a, dx, vs, e, k, _⟩ := h2; exact absurd (own a _ k) (List.not_mem_nil), ar.2.2⟩
  have r := rel_start ok ar2 (by simpa using hN : [V.ref C, v].length ≤ N.length)
  refine hb w w _ _ _ ok r (Step.refl w) (fun a i e => absurd (own a i e) (List.not_mem_nil)) (by unfold L2.start; rfl) ?_
  have nil : ∀ {w' : Wd}, OutR X.K G w' [v] [] [] := fun j i s hj => by simp at hj
  unfold clsF bodyF at h
  cases e : m (.un :: args ++ List.replicate (N.length - (Sl.un :: args).length) .un) with
  | bad => rw [e] at h; exact h
  | exc x st =>
    rw [e] at h
    exact fun c d w' σ' r' s' f k q => h c d w' r'.ok s' q nil
  | ok fl st =>
    rw [e] at h
    cases fl with
    | nx => exact fun w' σ' r' s' f k => h .non w' r'.ok s' .non nil
    | rt v => exact fun u w' σ' r' s' f k q => h u w' r'.ok s' q nil
    | bk => exact h.elim
    | ct => exact h.elim
structure FnC (P : Program) (w : World) (K : PySem.W.Frag) (mg : Str → Option Value) (base : Heap) (G : Nat → Addr) (k : Nat) (g C : Addr) (f : Env → Res) : Prop where
  ex : ∃ (fd : FuncData) (ps : List Str), Binds K fd ps [] ∧ FnOk P w K mg base (L2.CX P w) k g fd ps (fun vs H Q E => ∃ v, vs = [V.ref C, v] ∧ spM K G 1 [] f [v] H Q E)
section
variable {P : Program} {w : World} {K : PySem.W.Frag} {mg : Str → Option Value} {base : Heap} {k : Nat} {f C : Addr} {fd : FuncData} {x qual : Str} {params : Arguments} {body : List Stmt} {scope : Scope} {N : List Str} {a0 a1 : Str} {G : Nat → Addr} {m : M Fl}
theorem FnC.of (F : FunD K x qual params body scope [] [] f fd) (S : FnScope N [a0, a1] scope)
    (h : ∀ (kV doc pm : Value) (an : Option Addr) (cdv ct : Value) (us : List Value), us.length = [a0, a1].length → bindArgs (PySem.W.fnOf x qual params body scope .none kV doc pm an cdv ct) ⟨us, []⟩ = pure ([a0, a1].zip us))
    (hbody : ∀ (cdv : Value) (A : Around) (outer : List PySem.Env) (s : Shared) (H : Hp) (E : XK), Room k (A.deeper (envOfC qual scope s.heap.objs.size f cdv)) → SndBq G (cxOf (L2.CX P w) P w K mg base N qual scope f cdv A outer s H E) (WXE E) [0] C 0 body m) :
    FnC P w K mg base G (k + 1) f C (clsF N.length m) := by
  have hN : [a0, a1].length ≤ N.length := by have := congrArg List.length S.pre; rw [List.length_take] at this; omega
  refine ⟨⟨fd, [a0, a1], F.bindsN h, ?_⟩⟩
  refine F.ok S (fun vs H Q E h => by obtain ⟨v, rfl, _⟩ := h; rfl) fun cdv A outer s H vs Q E hr hsp => ?_
  obtain ⟨v, rfl, hsp⟩ := hsp
  exact ⟨_, pss_run, bodyq_run (X := cxOf (L2.CX P w) P w K mg base N qual scope f cdv A outer s H E) hN (hbody cdv A outer s H E hr) hsp⟩
end
section
variable {G : Nat → Addr} {X : Cx} {W : WX} {e : Expr} {es : List Expr} {pos apos np : Pos} {f : Env → Res} {k j : Nat} {C p g : Addr} {mc : Value} {x m : Str} {ma : M (List Ag)}
theorem snd_cmeth {pl : Sem Bool} (tk : Takes X W) (hm : X.mg x = some (.ref C)) (r : CRead X.K C mc) (c : CMet X.K C mc m p g) (F : FnC X.prog X.w X.K X.mg X.base G j g C f) (hr : Room k X.A) (hj : j ≤ k)
    (hl : SndA G X W [e] ma) (ha : PA X [e] (RunL X [e])) (hg : Gl X x := by rfl) (hdb : (x == ("__debug__" : Str)) = false := by decide)
    (hst : starEach [e] X.env = (false, eval e X.env) :: starEach [] X.env := by rfl) (hpl : (backTo pos (starEach [] X.env)).any (·.1) = false := by rfl)
    (ht : eval (.Call (.Attribute (.Name x np) m apos) [e] [] pos) X.env = (do
      let ov ← eval (.Name x np) X.env
      standAt apos.atName
      let (f, first) ← holding [ov] (getMethod ov m pl)
      callWith pos f first (backTo pos (starEach [e] X.env)) (backToKw pos (keywordEach [] X.env))) := by rfl) :
    SndV G X W (.Call (.Attribute (.Name x np) m apos) [e] [] pos) (callM f [] ma) := by
  intro w st σ Q rr pp; refine ⟨fun pins s I => ?_⟩
  have h1 : RunE X (.Name x np) σ w.H fun v H1 => v = .ref C ∧ H1 = w.H := RunE.of (pe_glob hg hm (v := .ref C) rfl hdb) ⟨rfl, rfl⟩
  refine PySem.W.methodCall_KW (pl := pl) (thn (h1 pins s I) fun u s1 ⟨v, H1, I1, rv, ev, eH⟩ => ?_) ht
  subst ev eH
  obtain rfl : u = Value.ref C := rv
  have hA : RunL X [e] σ w.H fun us H => spM X.K G 1 [] f us H Q (WE W σ) := by
    refine RunL.len ?_
    exact args_then hl rr pp 1
  refine getmethcm_ok I1 r c fun s2 I2 => ?_
  refine callwith_cm I2 (base_none I1 (Nat.le_refl _)) c.fi (thn (ha.run pos _ s2 σ w.H _ I2 hA) fun us s3 ⟨vs, H2, I3, rv, q2⟩ => ⟨⟨pin_at I3, I3.kIn⟩, ?_⟩) hst hpl
  obtain ⟨fd, ps, hb, F⟩ := F.ex
  have hvl : vs.length = 1 := q2.1
  match vs, hvl, rv, q2 with
  | [v], _, rv, q2 =>
    have q3 : ∃ v', [V.ref C, v] = [V.ref C, v'] ∧ spM X.K G 1 [] f [v'] H2 Q (WE W σ) := ⟨v, rfl, q2⟩
    have r2 : Vals [V.ref C, v] (Value.ref C :: us) := .cons rfl rv
    have hl2 : (Value.ref C :: us).length = ps.length := by rw [← r2.length]; exact F.len _ _ _ (WE W σ) q3
    have b := hb s3 (Value.ref C :: us) I3.kIn (by rw [List.append_nil]; exact hl2)
    rw [List.append_nil] at b
    have z : wpAny (model X.prog X.w) X.A (call (.ref s1.heap.objs.size) us) (EP X ((s1.heap.objs.size, PySem.W.methodObj (.ref g) (.ref C)) :: pins) σ Q) X.xe s3 := by
      refine wpAny_call (PySem.W.method_call (pin_at I3) (codeAny_mono (F.run X.A X.stack s3 H2 ⟨Value.ref C :: us, []⟩ (Value.ref C :: us) [V.ref C, v] Q (WE W σ) (hr.mono hj) I3.env0 b r2 q3) fun r s' hq => ?_))
      cases r with
      | error e => exact passAt tk σ _ H2 s3 e s' I3 hq
      | ok fl =>
        cases fl with
        | ret u => exact I3.after hq
        | next => exact False.elim hq
        | brk => exact False.elim hq
        | cont => exact False.elim hq
    exact thn z fun _ _ y => unpinE y
end
theorem cmetB_ok {K : PySem.W.Frag} {x m : Str} {g : Addr} (c : cmetB K x m g = true) : ∃ p, CMet K (He.ga K x) (.type "type") m p g := by
  unfold cmetB at c
  split at c
  · rename_i b p C h
    have c1 : b = "classmethod.__get__" := of_decide_eq_true (He.ba c).1
    have c2 : C = He.ga K x := of_decide_eq_true (He.ba (He.ba c).2).1
    have c3 := (He.ba (He.ba (He.ba c).2).2)
    subst c1 c2
    obtain ⟨c3, c4⟩ := c3
    split at c3
    · rename_i h2 rest hr
      have e3 : h2 = g := of_decide_eq_true c3
      subst e3
      exact ⟨p, h, ⟨rest, hr⟩, c4⟩
    · cases c3
  · cases c
end Rz
namespace Rz
open PySem PySem.Spec PyProof.Rows L2 NdefX ClX
def dNeK (a b : D) : Option D := match a, b with
  | .dct ks, .dct [] => some (.bl (!ks.isEmpty))
  | a, b => dNe a b
section
variable {G : Nat → Addr} {X : Cx}
theorem repK_len {K : PySem.W.Frag} {F : Hp} {vs : List (Key × V)} {ks : List (DK × D)} (h : RepK K G F vs ks) : vs.length = ks.length := h.length
theorem opS_neK (hu : X.A.units + 64 < cLine) : OpS X G (compareOp .NotEq) dNeK := by
  intro pins s σ H x y v u Q I rx ry h
  have h0 := h
  obtain ⟨w, a, b, z, eH, ok, ra, rb, eg, gv⟩ := h
  subst eH
  unfold dNeK at eg
  split at eg
  · rename_i ks
    obtain rfl := Option.some.inj eg
    obtain ⟨p, vs, rfl, hd, rk⟩ := repB_dct ok ra
    obtain ⟨p', vs', rfl, hd', rk'⟩ := repB_dct ok rb
    have e' : vs' = [] := List.length_eq_zero_iff.mp (repK_len rk')
    subst e'
    have hl0 := repK_len rk
    obtain rfl : v = Value.ref p := rx
    obtain rfl : u = Value.ref p' := ry
    obtain ⟨_, ya, va, ra2, da⟩ := dk_rd I.hok hd
    obtain ⟨_, yb, vb, rb2, db⟩ := dk_rd I.hok hd'
    have hla : va.length = ks.length := by rw [← ra2.length]; exact hl0
    have hlb : vb.length = 0 := by rw [← rb2.length]; rfl
    refine PySem.W.keq_ne (knd := mixKind X.prog X.w) (r := true) ya yb da db (by omega) (fun e => hits_all rb2 ra2 fun q hq => ?_) (fin_bl I (giv_here ok gv (.bl _)) ?_)
    · rw [hlb, ← ra2.length] at e
      rw [List.length_eq_zero_iff.mp e] at hq
      cases hq
    · rw [hla, hlb]
      cases ks <;> rfl
  · exact opS_ne hu pins s σ _ x y v u Q I rx ry ⟨w, _, _, z, rfl, ok, ra, rb, eg, gv⟩
end
@[simp] theorem dNeK_dct (ks : List (DK × D)) : dNeK (.dct ks) (.dct []) = some (.bl (!ks.isEmpty)) := rfl
end Rz
namespace Rz
open PySem PySem.Spec PyProof.Rows L2 NdefX ClX
def mergK (ks ls : List (Key × V)) : List (Key × V) := ls.foldl (fun acc q => putK acc q.1 q.2) ks
theorem mergK_len : ∀ (ls ks : List (Key × V)), (mergK ks ls).length ≤ ks.length + ls.length
  | [], ks => Nat.le_refl _
  | q :: ls, ks => by
    have h := mergK_len ls (putK ks q.1 q.2)
    have := length_putK ks q.1 q.2
    rw [List.length_cons]
    exact Nat.le_trans h (by omega)
theorem mergK_rel : ∀ {ls : List (Key × V)} {us : List (Key × Value)}, KV ls us → ∀ {ks : List (Key × V)} {vs : List (Key × Value)}, KV ks vs → KV (mergK ks ls) (merged vs us)
  | _, _, .nil, _, _, r => r
  | (k, v) :: _, (k2, u) :: _, .cons h t, _, _, r => by
    obtain ⟨h1, h2⟩ := h
    dsimp only at h1 h2
    subst h1
    exact mergK_rel t (r.put k h2)
section
variable {X : Cx} {pins : List (Addr × Obj)} {σ : L2.St} {H : Hp} {s : Shared} {A : Around} {E : Value → Shared → Prop} {a b : Addr} {ks ls : List (Key × V)}
theorem d_update {Q : Value → Shared → Prop} (I : Inv X pins σ H s) (e1 : H a = some (.dK ks)) (e2 : Rd H b (.dK ls)) (hne : a ≠ b) (hl : ks.length + ls.length ≤ sizeLine) (h : ∀ s', Inv X pins σ (upd H a (.dK (mergK ks ls))) s' → Q .none s') :
    wpAny (model X.prog X.w) A (call (.builtin "dict.update") [.ref a, .ref b]) Q E s := by
  obtain ⟨z1, hd1, vs, r1, d1⟩ := dk_of I.hok e1
  obtain ⟨z2, hd2, us, r2, d2⟩ := dk_rd I.hok e2
  refine call_meetsIn PySem.F.slot_dict_update d1.typeIs PySem.F.entry_dict_update (PySem.F.args_dict_update_2 _ _) (meets_dict_update (mixKind X.prog X.w) a b hne hd2)
    ⟨vs, us, d1, d2, (by rw [← r1.length, ← r2.length]; exact hl), fun h' dd' hh hs => ?_⟩
  have he : ∃ q, h'.get? a = some q := let ⟨q, _, _, hq, _⟩ := dd'; ⟨q, hq⟩
  exact h _ (d_write I (by rw [e1]; exact True.intro) hs he (dk_new (Nat.le_trans (mergK_len ls ks) hl) hd1 (mergK_rel r2 r1) dd'))
end
def rUpd : V → List V → Hp → VK → Prop := fun x vs H Q => ∃ a b ks ls, x = .ref a ∧ vs = [.ref b] ∧ H a = some (.dK ks) ∧ Rd H b (.dK ls) ∧ a ≠ b ∧ ks.length + ls.length ≤ sizeLine ∧ Q .non (upd H a (.dK (mergK ks ls)))
theorem mt_update {X : Cx} : MtR X "dict.update" rUpd := by
  intro pins s σ H x vs v us Q I rx rv h
  obtain ⟨a, b, ks, ls, rfl, rfl, hH, hB, hne, hz, q⟩ := h
  cases rx
  obtain ⟨u, rfl, ru⟩ := rv.one
  cases ru
  exact d_update I hH hB hne hz fun s' I' => ⟨.non, _, I', rfl, q⟩
theorem RepK.merg {K : PySem.W.Frag} {G : Nat → Addr} {F : Hp} : ∀ {us : List (Key × V)} {ls : List (DK × D)}, RepK K G F us ls → ∀ {vs : List (Key × V)} {ks : List (DK × D)}, RepK K G F vs ks → RepK K G F (mergK vs us) (mergeD ks ls)
  | _, _, .nil, _, _, r => r
  | _, _, .cons q t, _, _, r => RepK.merg t (r.put q)
def updM (i : Nat) (m : M D) : M D := fun st => match st[i]? with
  | some (.md _) => (m st).bind fun d => fun st1 => match d with
    | .dct ls => (match st1[i]? with
      | some (.md ks) => if ks.length + ls.length ≤ 16777216 then .ok .non (st1.set i (.md (mergeD ks ls))) else .bad
      | _ => .bad)
    | _ => .bad
  | _ => .bad
section
variable {G : Nat → Addr} {X : Cx} {W : WX} {e : Expr} {pos apos cpos np : Pos} {w : Wd} {st : Env} {σ : L2.St} {i : Nat} {x : Str}
theorem ownD_at {K : PySem.W.Frag} (r : Rel K G w st σ) {xs : List (DK × D)} (h : st[i]? = some (.md xs)) : ∃ a vs, σ[i]? = some (some (.ref a)) ∧ w.k a = .own i ∧ w.H a = some (.dK vs) ∧ RepK K G w.F vs xs := by
  obtain ⟨y, hy, a, vs, rfl, k, hh, rr⟩ := r.at_ i _ h
  exact ⟨a, vs, hy, k, hh, rr⟩
theorem snd_upd {m : M D} (h : SndD G X W e m) (hN : X.N[i]? = some x := by rfl) (hv : Vis X.env.scope x := by first | exact Or.inl rfl | exact Or.inr (Or.inl rfl) | exact Or.inr (Or.inr rfl))
    (hd : (x == ("__debug__" : Str)) = false := by decide) (hcd : (x == ("__classdict__" : Str)) = false := by decide)
    (hbase : attributeBase (.Name x np) "update" X.env (eval (.Name x np) X.env) = eval (.Name x np) X.env := by rfl)
    (hfew : ((backTo cpos (starEach [e] X.env)).all (fun x => !x.1) && (backToKw cpos (keywordEach [] X.env)).all (fun x => x.1.isSome)
      && decide ([e].length + ([] : List Keyword).length + (if ([] : List Keyword).isEmpty then 0 else 1) < 30)) = true := by rfl)
    (hline : (apos.endLine == cpos.line) = true := by rfl) (hs : starEach [e] X.env = (false, eval e X.env) :: starEach [] X.env := by rfl) :
    SndD G X W (.Call (.Attribute (.Name x np) "update" apos) [e] [] cpos) (updM i m) := by
  intro w st σ Q r p
  unfold updM at p
  cases e0 : st[i]? with
  | none => rw [e0] at p; exact p.elim
  | some s0 =>
    rw [e0] at p
    cases s0 with
    | md xs0 =>
      obtain ⟨a, vs0, hσ, k0, h0, r0⟩ := ownD_at r e0
      refine RunE.of (pe_bm F.plainAttrs_dict PySem.F.slot_dict_update PySem.F.type_dict_update mt_update (pe_var hN hv hd hcd) (pa_cons (pe_run (e := e)) pa_nil hs) hbase hfew hline hs rfl) ?_
      refine ⟨.ref a, hσ, .inr (.inr (.inl ⟨rfl, .inl ⟨vs0, h0⟩⟩)), ?_⟩
      refine h w st σ _ r ?_
      cases em : m st with
      | bad => rw [em] at p; exact p
      | exc y st1 => rw [em] at p; exact p
      | ok d st1 =>
        rw [em] at p
        intro u w1 r1 s1 q1
        cases d with
        | dct ls =>
          have p : Post X.K G (RD X.K G) w σ W (match st1[i]? with
            | some (.md ks) => if ks.length + ls.length ≤ 16777216 then Out.ok D.non (st1.set i (.md (mergeD ks ls))) else .bad
            | _ => .bad) Q := p
          cases e1 : st1[i]? with
          | none => rw [e1] at p; exact p.elim
          | some s2 =>
            rw [e1] at p
            cases s2 with
            | md ks =>
              obtain ⟨b, vs, hσ', k1, h1, r1'⟩ := ownD_at r1 e1
              rw [hσ] at hσ'
              cases hσ'
              have p : Post X.K G (RD X.K G) w σ W (if ks.length + ls.length ≤ 16777216 then Out.ok D.non (st1.set i (.md (mergeD ks ls))) else .bad) Q := p
              by_cases hz : ks.length + ls.length ≤ 16777216
              · rw [if_pos hz] at p
                cases (show Rep X.K G w1.F u (.dct ls) from q1) with
                | @dct b o us _ hb rb =>
                  have hne : a ≠ b := by
                    rintro rfl
                    have := (r1.ok.kf a).mpr ⟨_, hb⟩
                    rw [k1] at this
                    cases this
                  refine ⟨a, b, vs, us, rfl, rfl, h1, .inr ⟨_, r1.ok.sub _ _ hb⟩, hne, by rw [r1'.length, rb.length, sizeLine_eq]; exact hz, ?_⟩
                  exact p .non (w1.put a (.dK (mergK vs us))) (r1.put_md k1 hσ (rb.merg r1')) (s1.trans r1.ok (Wd.put_ok r1.ok (by rw [k1]; intro z; cases z)) (Wd.put_step r1.ok k1)) .non
              · rw [if_neg hz] at p; exact p.elim
            | _ => exact p.elim
        | _ => exact p.elim
    | _ => exact p.elim
def updO (i : Nat) (m : M D) (st : Env) : Option Sl → Out D
  | some (.md _) => (m st).bind fun d => fun st1 => match d with
    | .dct ls => (match st1[i]? with
      | some (.md ks) => if ks.length + ls.length ≤ 16777216 then .ok .non (st1.set i (.md (mergeD ks ls))) else .bad
      | _ => .bad)
    | _ => .bad
  | _ => .bad
@[simp] theorem updM_ap (i : Nat) (m : M D) (st : Env) : updM i m st = updO i m st st[i]? := by
  unfold updM updO
  cases st[i]? with
  | none => rfl
  | some s => cases s <;> rfl
@[simp] theorem updO_md (i : Nat) (m : M D) (st : Env) (xs : List (DK × D)) : updO i m st (some (.md xs)) = (m st).bind fun d => fun st1 => match d with
    | .dct ls => (match st1[i]? with
      | some (.md ks) => if ks.length + ls.length ≤ 16777216 then .ok .non (st1.set i (.md (mergeD ks ls))) else .bad
      | _ => .bad)
    | _ => .bad := rfl
end
end Rz
namespace Rz
open PySem PySem.Spec PyProof.Rows L2 NdefX ClX
def dScn (l d : D) : Option D := match l, d with
  | .str s, .str [c] => some (.int (s.count c : Nat))
  | _, _ => none
def scnV (m m' : M D) : M D := bindM m fun o => match o with
  | .str _ => bindM m' fun d => liftM (dScn o d)
  | _ => badM
theorem count_sign (c : Nat) : ∀ s : List Nat, countIn (.str ⟨#[c]⟩) (s.map fun n => PyData.str ⟨#[n]⟩) = ((s.count c : Nat) : Int)
  | [] => rfl
  | b :: s => by
    rw [List.map_cons, countIn, count_sign c s, List.count_cons]
    simp only [same]
    by_cases h : b = c
    · subst h; simp; omega
    · have h2 : ¬ c = b := fun e => h e.symm
      simp [h, h2]
section
variable {G : Nat → Addr} {X : Cx} {W : WX} {e o : Expr} {pos apos cpos : Pos}
theorem snd_scnV {m m' : M D} (ho : SndD G X W o m) (h : SndD G X W e m')
    (hbase : attributeBase o "count" X.env (eval o X.env) = eval o X.env := by rfl)
    (hfew : ((backTo cpos (starEach [e] X.env)).all (fun x => !x.1) && (backToKw cpos (keywordEach [] X.env)).all (fun x => x.1.isSome)
      && decide ([e].length + ([] : List Keyword).length + (if ([] : List Keyword).isEmpty then 0 else 1) < 30)) = true := by rfl)
    (hline : (apos.endLine == cpos.line) = true := by rfl) (hs : starEach [e] X.env = (false, eval e X.env) :: starEach [] X.env := by rfl) :
    SndD G X W (.Call (.Attribute o "count" apos) [e] [] cpos) (scnV m m') := by
  intro w st σ Q r p
  refine RunE.of (pe_bm F.plainAttrs_str PySem.F.slot_str_count PySem.F.type_str_count mt_count pe_run (pa_cons (pe_run (e := e)) pa_nil hs) hbase hfew hline hs rfl) ?_
  refine Snd.bind (run1 := RunE X o) ho older_D r p fun a u w1 st1 r1 s1 q1 p1 => ?_
  cases a with
  | str t =>
    cases q1
    refine ⟨rfl, ?_⟩
    refine Snd.bind (run1 := RunE X e) h older_D r1 p1 fun d u' w2 st2 r2 s2 q2 p2 => ?_
    have p3 : Post X.K G (RD X.K G) w2 σ W ((liftM (dScn (.str t) d) : M D) st2) Q := p2
    cases d with
    | str b =>
      cases b with
      | nil => exact p3.elim
      | cons c b =>
        cases b with
        | cons c2 b => exact p3.elim
        | nil =>
          cases q2
          have e1 : Txt.count ⟨t.toArray⟩ ⟨[c].toArray⟩ = ((t.count c : Nat) : Int) := by
            have h1 := count_is ⟨t.toArray⟩ c
            have h2 : (⟨t.toArray⟩ : Str).cps.toList = t := by simp
            rw [h2, count_sign] at h1
            exact h1
          refine ⟨⟨t.toArray⟩, ⟨[c].toArray⟩, rfl, rfl, ?_⟩
          rw [e1]
          exact p3 _ w2 r2 (Step.refl _) (.int _)
    | _ => exact p3.elim
  | _ => exact p1.elim
end
@[simp] theorem scnV_ap (m m' : M D) (st : Env) : scnV m m' st = (m st).bind fun o => match o with
  | .str _ => bindM m' fun d => liftM (dScn o d)
  | _ => badM := rfl
@[simp] theorem dScn_sign (s : List Nat) (c : Nat) : dScn (.str s) (.str [c]) = some (.int (s.count c : Nat)) := rfl
end Rz
namespace Rz
open PySem PySem.Spec PyProof.Rows L2 NdefX ClX
section
variable {prog : Program} {w : World} {A : Around} {E : Value → Shared → Prop} {s : Shared}
theorem places_rev (n : Nat) : Builtin.Slice.slicePlaces ((n : Int) - 1) (-1) (-1) = n := by
  unfold Builtin.Slice.slicePlaces
  have h1 : ¬ ((-1 : Int) > 0) := by decide
  rw [if_neg h1]
  by_cases h : (n : Int) - 1 > -1
  · rw [if_pos h]
    have e : ((n : Int) - 1 - -1 - 1) / (- -1) + 1 = (n : Int) := by
      rw [show (- -1 : Int) = 1 by decide, Int.ediv_one]
      omega
    rw [e, Int.toNat_natCast]
  · rw [if_neg h]
    omega
theorem adjust_rev (n : Nat) : Builtin.Slice.sliceAdjust none none (-1) (n : Int) = ((n : Int) - 1, -1) := by
  unfold Builtin.Slice.sliceAdjust
  have h1 : (-1 : Int) < 0 := by decide
  simp only [h1, if_true]
theorem sliceApplied_rev {sl : Addr} {vs : Value} {n : Nat} {Q : Int × Int × Nat → Shared → Prop} (hs : s.heap.IsSliceOf sl .none .none vs) (ps : IsPart vs (some (-1)))
    (h : Q ((n : Int) - 1, -1, n) s) : wpAny (model prog w) A (Builtin.Slice.sliceApplied (.ref sl) (pure (n : Int))) Q E s := by
  obtain ⟨os, hos, hcs, hds⟩ := id hs
  unfold Builtin.Slice.sliceApplied Builtin.Slice.sliceFields
  refine wpAny_bind (wpAny_bind (wpAny_field hos hds (x := .none) rfl (wpAny_bind (wpAny_field hos hds (x := .none) rfl (wpAny_bind (wpAny_field hos hds (x := vs) rfl (wpAny_pure ?_)))))))
  refine wpAny_bind (HT.slicePart_ ps ?_)
  show wpAny _ _ (if ((-1 : Int) == 0) = true then _ else _) _ _ s
  rw [if_neg (by decide)]
  refine wpAny_bind (slicePart_none (wpAny_bind (slicePart_none (wpAny_bind (wpAny_pure ?_)))))
  show wpAny _ _ (match Builtin.Slice.sliceAdjust none none (-1) (n : Int) with | (lo, hi) => pure (lo, (-1 : Int), Builtin.Slice.slicePlaces lo hi (-1))) _ _ s
  rw [adjust_rev n]
  show wpAny _ _ (pure ((n : Int) - 1, (-1 : Int), Builtin.Slice.slicePlaces ((n : Int) - 1) (-1) (-1))) _ _ s
  rw [places_rev]
  exact wpAny_pure h
theorem fm_congr {α β : Type} {f g : α → Option β} : ∀ {l : List α}, (∀ m ∈ l, f m = g m) → l.filterMap f = l.filterMap g
  | [], _ => rfl
  | x :: l, h => by rw [List.filterMap_cons, List.filterMap_cons, h x (.head _), fm_congr fun m hm => h m (.tail _ hm)]
theorem pick_rev (xs : Array Value) : ((List.range xs.size).filterMap fun (m : Nat) => xs[(((xs.size : Nat) : Int) - 1 + (m : Int) * (-1)).toNat]?).toArray = xs.toList.reverse.toArray := by
  have e1 : ∀ m ∈ List.range xs.size, xs[(((xs.size : Nat) : Int) - 1 + (m : Int) * (-1)).toNat]? = xs[xs.size - 1 - m]? := fun m hm => by
    have := List.mem_range.mp hm
    rw [show (((xs.size : Nat) : Int) - 1 + (m : Int) * (-1)).toNat = xs.size - 1 - m by omega]
  have e2 : (List.range xs.size).filterMap (fun (m : Nat) => xs[(((xs.size : Nat) : Int) - 1 + (m : Int) * (-1)).toNat]?) = ((List.range xs.size).map fun k => xs.size - 1 - k).filterMap (xs[·]?) := by
    rw [List.filterMap_map]
    exact fm_congr e1
  rw [e2, PySem.W.krv_range, List.filterMap_reverse, PySem.W.krv_all]
theorem getItem_tuple_rev {t sl : Addr} {items : Array Value} {vs : Value} {Q : Value → Shared → Prop} (ht : IsTup s.heap t items) (hs : s.heap.IsSliceOf sl .none .none vs) (ps : IsPart vs (some (-1)))
    (h : Q (.ref s.heap.objs.size) { s with heap := s.heap.push { cls := .type "tuple", data := .seq items.toList.reverse.toArray } })
    (hsz : items.size ≤ sizeLine) : wpAny (model prog w) A (getItem (.ref t) (.ref sl)) Q E s := by
  have htake : sizeOk (.seq items.toList.reverse.toArray) := by
    show items.toList.reverse.toArray.size ≤ sizeLine
    rw [List.size_toArray, List.length_reverse, Array.length_toList]
    exact hsz
  obtain ⟨os, hos, hcs, hds⟩ := id hs
  have hTs : s.TypeIs (.ref sl) "slice" := ⟨os, hos, hcs⟩
  unfold getItem
  try with_reducible refine wpAny_holding ?_
  first | refine wpAny_bind (wpAny_pure ?_) | skip
  refine wpAny_bind (wpAny_sequenceKey ht.typeIs (by decide) ?_)
  refine wpAny_bind (wpAny_callSpecial?_slot (name := Str.ofString "__getitem__") ht.typeIs PyProof.Rows.slot_tuple_getitem
    (wpAny_call_entry PyProof.Rows.slot_tuple_getitem ht.typeIs entry_tuple_getitem ?_ (args_tuple_getitem _ _)))
  show wpAny _ _ (Builtin.Tuple.tupleItemsOf (.ref t) >>= _) _ _ s
  refine wpAny_bind (tupleItemsOf_ ht ?_)
  refine wpAny_bind (wpAny_typeOf hTs ?_)
  rw [if_pos (by decide)]
  refine wpAny_bind (sliceApplied_rev hs ps ?_)
  have hno : ¬ ((((items.size : Int) - 1) == 0 && (-1 : Int) == 1 && items.size == items.size) = true) := by
    intro q
    rw [Bool.and_eq_true, Bool.and_eq_true] at q
    exact absurd q.1.2 (by decide)
  show wpAny _ _ (if (((items.size : Int) - 1) == 0 && (-1 : Int) == 1 && items.size == items.size) = true then _ else _) _ _ s
  rw [if_neg hno, pick_rev]
  first
    | exact wpAny_bind (m := Builtin.Tuple.tupleExact _) (wpAny_newObj_type (wpAny_pure ⟨_, rfl, wpAny_pure h⟩) htake)
    | exact wpAny_bind (m := Builtin.Tuple.tupleExact _) (wpAny_newObj_type (wpAny_bind (wpAny_pure (wpAny_pure ⟨_, rfl, wpAny_pure h⟩))) htake)
    | exact wpAny_bind (wpAny_bind (m := Builtin.Tuple.tupleExact _) (wpAny_newObj_type (wpAny_pure (wpAny_pure ⟨_, rfl, wpAny_pure h⟩)) htake))
    | exact wpAny_bind (wpAny_bind (m := Builtin.Tuple.tupleExact _) (wpAny_newObj_type (wpAny_pure ⟨_, rfl, wpAny_pure h⟩) htake))
end
section
variable {X : Cx}
def tRevA (K : PySem.W.Frag) (te : TE) : TE := fun σ H Q => te σ H fun x H1 => ∃ a xs, x = .ref a ∧ ((SqL K H1 a xs ∧ ∀ p, H1 p = none → Q (.ref p) (upd H1 p (.lst xs.reverse))) ∨ (SqT K H1 a xs ∧ ∀ p, H1 p = none → Q (.ref p) (upd H1 p (.tup xs.reverse))))
theorem pe_revA {e : Expr} {te : TE} {k : Nat} {p1 p2 p3 pos : Pos} (he : PE X e te) : PE X (.Subscript e (.Slice none none (some (.UnaryOp .USub (.Constant (.int 1) k p1) p2)) p3) pos) (tRevA X.K te) := by
  refine ⟨fun pins s σ H Q I h => ?_⟩
  refine Subscript_ (thn (he.run pins s σ H _ I h) fun v s1 ⟨x, H1, I1, r1, q1⟩ => ?_)
  obtain ⟨a, xs, ex, q1⟩ := q1
  subst ex
  cases r1
  have hst : PO X (some (.UnaryOp .USub (.Constant (.int 1) k p1) p2)) (tPart (tUn (rU fun i => .int (-i)) (tC (.int 1)))) := po_some (pe_un un_neg pe_int)
  refine wpAny_Slice (thn (po_none.run pins s1 σ H1 (fun o H2 => o = none ∧ H2 = H1) I1 ⟨rfl, rfl⟩) fun vl s2 ⟨l, H2, I2, pl, el, e2⟩ => ?_)
  subst el e2
  refine thn (po_none.run pins s2 σ H2 (fun o H3 => o = none ∧ H3 = H2) I2 ⟨rfl, rfl⟩) fun vu s3 ⟨u, H3, I3, pu, eu, e3⟩ => ?_
  subst eu e3
  refine thn (hst.run pins s3 σ H3 (fun o H4 => o = some (-1) ∧ H4 = H3) I3 ⟨1, rfl, -1, rfl, rfl, rfl⟩) fun vs s4 ⟨o, H4, I4, ps, eo, e4⟩ => ?_
  subst eo e4
  have I5 : Inv X pins σ H4 { s4 with heap := s4.heap.push { cls := .type "slice", data := .fields #[vl, vu, vs] } } := I4.kept (t' := s4.toks) fun b ob q => Heap.get?_push_of_some _ q
  rcases q1 with ⟨hx, q⟩ | ⟨hx, q⟩
  · obtain ⟨its, r, ht, hz⟩ := I5.list hx
    have hlen := r.length
    show wpAny (model X.prog X.w) X.A (subscriptTail e (.Slice none none (some (.UnaryOp .USub (.Constant (.int 1) k p1) p2)) p3) (.ref a) (.ref s4.heap.objs.size)) (EP X pins σ Q) X.xe { s4 with heap := s4.heap.push { cls := .type "slice", data := .fields #[vl, vu, vs] } }
    refine tail_any (ops := [.ref a, .ref s4.heap.objs.size]) ht.isList.typeIs (PySem.slot_list_getitem.lookup) ?_ (by with_unfolding_all rfl)
    refine wpAny_getItem_list_slice ht.isList (Heap.IsSliceOf.new _ vl vu vs) pl pu ps (by decide) ?_ (by rw [List.size_toArray]; omega)
    rw [PySem.W.krv_pick]
    refine ⟨.ref _, _, I5.laid (t' := s4.toks) (o := .lst xs.reverse) (fun b ob q => Heap.get?_push_of_some _ q) (Nat.le_refl _) ?_, rfl, q _ (I5.hok.fresh (Nat.le_refl _))⟩
    exact ⟨by rw [List.length_reverse]; exact hz, _, 0, r.reverse, Heap.get?_push_size _ rfl⟩
  · obtain ⟨its, r, ht, hz⟩ := I5.tuple hx
    have hlen := r.length
    cases pl
    cases pu
    show wpAny (model X.prog X.w) X.A (subscriptTail e (.Slice none none (some (.UnaryOp .USub (.Constant (.int 1) k p1) p2)) p3) (.ref a) (.ref s4.heap.objs.size)) (EP X pins σ Q) X.xe { s4 with heap := s4.heap.push { cls := .type "slice", data := .fields #[.none, .none, vs] } }
    refine tail_any (ops := [.ref a, .ref s4.heap.objs.size]) ht.typeIs (PyProof.Rows.slot_tuple_getitem.lookup) ?_ (by with_unfolding_all rfl)
    refine getItem_tuple_rev ht (Heap.IsSliceOf.new _ .none .none vs) ps ?_ (by rw [List.size_toArray]; omega)
    refine ⟨.ref _, _, I5.laid (t' := s4.toks) (o := .tup xs.reverse) (fun b ob q => Heap.get?_push_of_some _ q) (Nat.le_refl _) ?_, rfl, q _ (I5.hok.fresh (Nat.le_refl _))⟩
    exact ⟨by rw [List.length_reverse]; exact hz, _, r.reverse, IsTup.new _ _⟩
end
def revA (m : M D) : M D := bindM m fun d => match d with
  | .lst xs => pureM (.lst xs.reverse)
  | .tup xs => pureM (.tup xs.reverse)
  | _ => badM
section
variable {G : Nat → Addr} {X : Cx} {W : WX} {e : Expr} {pos : Pos}
theorem snd_revA {m : M D} {k : Nat} {p1 p2 p3 : Pos} (he : SndD G X W e m) : SndD G X W (.Subscript e (.Slice none none (some (.UnaryOp .USub (.Constant (.int 1) k p1) p2)) p3) pos) (revA m) := by
  intro w st σ Q r p
  refine RunE.of (pe_revA pe_run) ?_
  refine Snd.bind (run1 := RunE X e) he older_D r p fun d u w1 st1 r1 s1 q1 p1 => ?_
  cases d with
  | lst xs =>
    have p2 : Post X.K G (RD X.K G) w1 σ W ((pureM (.lst xs.reverse) : M D) st1) Q := p1
    obtain ⟨a, vs, rfl, hH, rr⟩ := repB_lst r1.ok (.fz q1)
    exact ⟨a, vs, rfl, .inl ⟨.inl (.inl hH), fun p hp => giv_new r1.ok (giv_of r1 p2) hp (.lst upd_same (rr.rev.mono (same_upd (r1.ok.f_none hp))))⟩⟩
  | tup xs =>
    have p2 : Post X.K G (RD X.K G) w1 σ W ((pureM (.tup xs.reverse) : M D) st1) Q := p1
    obtain ⟨a, vs, rfl, hH, rr⟩ := repB_tup (.fz q1)
    exact ⟨a, vs, rfl, .inr ⟨SqT.same r1.ok.sub hH, fun p hp => giv_new r1.ok (giv_of r1 p2) hp (.tup (.inl (.inl upd_same)) (rr.rev.mono (same_upd (r1.ok.f_none hp))))⟩⟩
  | _ => exact p1.elim
end
@[simp] theorem revA_ap (m : M D) (st : Env) : revA m st = (m st).bind fun d => match d with
  | .lst xs => pureM (.lst xs.reverse)
  | .tup xs => pureM (.tup xs.reverse)
  | _ => badM := rfl
end Rz
namespace Rz
open PySem PySem.Spec PyProof.Rows L2 NdefX ClX
theorem propB_ok {K : PySem.W.Frag} {x f : Str} {g : Addr} (c : propB K x f g = true) : ∃ p, PropOf K (He.ga K x) f p g := by
  unfold propB at c
  split at c
  · rename_i p h
    obtain ⟨c1, c2⟩ := He.ba c
    obtain ⟨c2', c3⟩ := He.ba c2
    split at c3
    · rename_i h2 rest hr
      have e3 : h2 = g := of_decide_eq_true c3
      subst e3
      exact ⟨p, h, He.eqO_ok c1, of_decide_eq_true c2', rest, hr⟩
    · cases c3
  · cases c
def PropOk (P : Program) (w : World) (K : PySem.W.Frag) (mg : Str → Option Value) (base : Heap) (G : Nat → Addr) (k : Nat) (cs : List Nat) (m : Str) (f : Nat → Env → Res) : Prop :=
  ∀ c ∈ cs, ∃ p fa, Cls K (G c) ∧ PropOf K (G c) m p fa ∧ FnA P w K mg base G k fa 1 [] (f c)
def propM (cs : List Nat) (f : Nat → Env → Res) (mo : M D) : M Sl := bindM mo fun o => match o with
  | .ins c fs => if cs.contains c then (fun st => match callO (f c) [] [.d (.ins c fs)] st with
    | .ok v st' => .ok v st'
    | _ => .bad) else badM
  | _ => badM
def noW : WX := fun _ _ _ _ => False
section
variable {G : Nat → Addr} {X : Cx} {W : WX} {o : Expr} {pos : Pos} {f : Nat → Env → Res} {j k : Nat} {cs : List Nat} {m : Str} {mo : M D}
theorem snd_prop (F : PropOk X.prog X.w X.K X.mg X.base G j cs m f) (hr : Room k X.A) (hj : j + 1 ≤ k) (ho : SndD G X W o mo) (hb : attributeBase o m X.env (eval o X.env) = eval o X.env := by rfl) : SndV G X W (.Attribute o m pos) (propM cs f mo) := by
  intro w st σ Q r p; refine ⟨fun pins s I => ?_⟩
  have h1 : RunE X o σ w.H fun x H1 => ∃ w1 st1 c fs, w1.H = H1 ∧ Rel X.K G w1 st1 σ ∧ Rep X.K G w1.F x (.ins c fs) ∧ c ∈ cs ∧
      Post X.K G (RV X.K G) w1 σ noW (callO (f c) [] [.d (.ins c fs)] st1) Q := by
    refine Snd.bind (run1 := RunE X o) ho older_V r p fun d u w1 st1 r1 s1 q1 p1 => ?_
    cases d with
    | ins c fs =>
      have p1 : Post X.K G (RV X.K G) w1 σ W ((if cs.contains c then (fun st => match callO (f c) [] [.d (.ins c fs)] st with
        | .ok v st' => .ok v st'
        | _ => .bad) else badM : M Sl) st1) Q := p1
      cases hc : cs.contains c with
      | true =>
        rw [hc] at p1
        refine ⟨w1, st1, c, fs, rfl, r1, q1, by simpa using hc, ?_⟩
        have p1 : Post X.K G (RV X.K G) w1 σ W (match callO (f c) [] [.d (.ins c fs)] st1 with
          | .ok v st' => .ok v st'
          | _ => .bad) Q := p1
        cases e : callO (f c) [] [.d (.ins c fs)] st1 with
        | ok v st' => rw [e] at p1; exact p1
        | exc x st' => rw [e] at p1; exact p1.elim
        | bad => rw [e] at p1; exact p1.elim
      | false => rw [hc] at p1; exact p1.elim
    | _ => exact p1.elim
  refine attr_of hb (thn (h1 pins s I) fun u s1 ⟨x, H1, I1, rx, w1, st1, c, fs, eH, r1, q1, hc, p1⟩ => ?_)
  subst eH
  obtain ⟨pa, fa, hcls, hp, FA⟩ := F c hc
  have q1' := q1
  cases q1 with
  | @ins a dx _ fsV _ hF rF =>
    obtain rfl : u = Value.ref a := rx
    obtain ⟨fd, ps, _, _, _, hbd, hl, FO⟩ := FA.ex
    have hk : agsOk st1 [.d (.ins c fs)] [] = true := agsOk_d st1 [.ins c fs] []
    have hs : spM X.K G 1 [] (f c) [.ref a] w1.H Q (WE noW σ) := by
      refine sp_of (w0 := w1) (vs := [.ref a]) (as := [.d (.ins c fs)]) r1 (.cons (show AgR X.K G σ w1 (.ref a) (.d (.ins c fs)) from q1') .nil) hk 1 rfl ?_
      have e : callO (f c) [] [.d (.ins c fs)] st1 = (match f c (([.d (.ins c fs)] : List Ag).map (slOf st1)) with
        | .ret v o => if o.length = ([] : List Nat).length then Out.ok v (backs st1 [.d (.ins c fs)] [] o) else .bad
        | .exc x o => if o.length = ([] : List Nat).length then .exc x (backs st1 [.d (.ins c fs)] [] o) else .bad
        | .bad => .bad) := by
        unfold callO
        exact if_pos hk
      rw [e] at p1
      exact p1
    have b := getprop_ok (b := true) (E' := X.xe) (ds := []) (dvs := []) (E := WE noW σ) I1 (r1.ok.sub _ _ hF) hcls hp FO (hr.mono hj) hbd .nil (fun pins σ' H s e s' _ c => by
      obtain ⟨_, _, _, _, _, _, _, _, _, _, _, _, z⟩ := c
      exact z) hs
    exact b
end
@[simp] theorem propM_ap (cs : List Nat) (f : Nat → Env → Res) (mo : M D) (st : Env) : propM cs f mo st = (mo st).bind fun o => match o with
  | .ins c fs => if cs.contains c then (fun st => match callO (f c) [] [.d (.ins c fs)] st with
    | .ok v st' => .ok v st'
    | _ => .bad) else badM
  | _ => badM := rfl
end Rz
namespace Rz
open PySem PySem.Spec PyProof.Rows L2 NdefX ClX
def dIsNotB : D → D → Option D
  | .bl a, .bl b => some (.bl (!decide (a = b)))
  | _, _ => none
section
variable {G : Nat → Addr} {X : Cx}
theorem opS_isNotB : OpS X G (compareOp .IsNot) dIsNotB := by
  intro pins s σ H x y v u Q I rx ry ⟨w, a, b, z, eH, ok, ra, rb, eg, gv⟩
  subst eH
  cases a with
  | bl a =>
    cases b with
    | bl b =>
      cases eg
      have ex := repB_bl ra
      have ey := repB_bl rb
      subst ex ey
      exact op_isnot_bl pins s σ _ _ _ v u Q I rx ry ⟨a, b, rfl, rfl, giv_here ok gv (.bl _)⟩
    | _ => cases eg
  | _ => cases b <;> cases eg
end
end Rz
namespace Rz
open PySem PySem.Spec PyProof.Rows L2
theorem tuple_mul0 (l : Addr) (items : Array Value) (n : Nat) (dd : Option Addr) (sl : Array (Option Value)) (x : Int) (u : Tok) (c0 : (decide (x < -(2 ^ 63)) || decide (x ≥ 2 ^ 63)) = false) (c1 : (items.isEmpty || x == 1) = false) (c2 : (decide (x ≤ 0) || items.isEmpty) = true) :
    Meets (Builtin.«tuple.__mul__» ⟨[.ref l, .int x u], []⟩) (fun _ R s => s.heap.get? l = some { cls := .type "tuple", dict := dd, data := .seq items n, slots := sl } ∧
      R (.ok (.ret (Value.ref s.heap.objs.size))) { s with heap := s.heap.push { cls := Value.type "tuple", data := Data.seq #[] }, toks := s.toks }) :=
  .of_wp fun prog w A R s h => by
    obtain ⟨hp, g, d, tk, os⟩ := s
    obtain ⟨hl, h⟩ := h
    have f1 := AutoSeq1.idx_int
    wp_walk using wpAny_loadPart' hl
    repeat (first
      | (refine wpAny_ite_false (decide_eq_false (by rw [c0]; exact Bool.false_ne_true)) ?_; wp_walk using wpAny_loadPart' hl)
      | (refine wpAny_ite_false (decide_eq_false (by rw [c1]; exact Bool.false_ne_true)) ?_; wp_walk using wpAny_loadPart' hl)
      | (refine wpAny_ite_true (decide_eq_true (by rw [c2])) ?_; wp_walk using wpAny_loadPart' hl))
    exact ⟨_, rfl, h⟩
def rRep0 (K : PySem.W.Frag) : R2 := fun x y H Q => ∃ l k xs, x = .ref l ∧ y = .int k ∧ SqT K H l xs ∧ xs ≠ [] ∧ k ≤ 0 ∧ -1000000 < k ∧ ∀ p, H p = none → Q (.ref p) (upd H p (.tup []))
theorem op_rep0 {X : Cx} : OpR X (binaryOp .Mult) (rRep0 X.K) := by
  intro pins s σ H x y v u Q I rx ry h
  obtain ⟨l, k, xs, rfl, rfl, hT, hne, h1, h2, q⟩ := h
  cases rx
  obtain ⟨t, rfl⟩ := ry
  obtain ⟨its, r, ⟨⟨cls, dd, data, sl⟩, ho, hc, n, hd⟩, hs⟩ := I.tuple hT
  simp only at hc hd
  subst hc hd
  have hle : its.length = xs.length := r.length.symm
  have hn : its ≠ [] := fun e => hne (by
    rw [e] at hle
    exact List.eq_nil_of_length_eq_zero hle.symm)
  have hi : its.toArray.isEmpty = false := by
    cases its with
    | nil => exact absurd rfl hn
    | cons a b => rfl
  have c0 : (decide (k < -(2 ^ 63)) || decide (k ≥ 2 ^ 63)) = false := by
    rw [decide_eq_false (by omega), decide_eq_false (by omega)] <;> rfl
  have c1 : (its.toArray.isEmpty || k == 1) = false := by
    rw [hi, Bool.false_or]
    exact beq_eq_false_iff_ne.mpr (by omega)
  have c2 : (decide (k ≤ 0) || its.toArray.isEmpty) = true := by
    rw [decide_eq_true h1, Bool.true_or]
  refine wpAny_binaryOp_repeat_ref (T := "tuple") (U := "int") (by decide) ⟨_, ho, rfl⟩ (fun s' => typeIs_int s' k t) noFill_tuple_mul F.fills_int_mul F.slot_int_rmul repeat_tuple F.slot_int_index.lookup
    (call_meets F.slot_int_rmul (typeIs_int s k t) F.entry_int_rmul (F.args_int_rmul_2 _ _) (int_rmul_tuple k t l its.toArray n dd sl)
      ⟨ho, rfl, ⟨_, ho, rfl⟩, call_meets F.slot_tuple_mul ⟨_, ho, rfl⟩ F.entry_tuple_mul (F.args_tuple_mul_2 _ _) (tuple_mul0 l its.toArray n dd sl k t c0 c1 c2) ⟨ho, ?_⟩⟩)
  refine ⟨.ref s.heap.objs.size, _, I.laid (t' := s.toks) (o := .tup []) (fun b ob q => Heap.get?_push_of_some _ q) (Nat.le_refl _) ?_, rfl, q _ (I.hok.fresh (Nat.le_refl _))⟩
  exact ⟨by simp, [], .nil, IsTup.new _ _⟩
def dMulT : D → D → Option D
  | .tup xs, .int k => if 0 < xs.length ∧ xs.length ≤ 1000 ∧ k ≠ 1 ∧ -1000000 < k ∧ k ≤ 1000 then some (.tup (List.replicate k.toNat xs).flatten) else none
  | _, _ => none
section
variable {G : Nat → Addr} {X : Cx}
theorem opS_mulT : OpS X G (binaryOp .Mult) dMulT := by
  intro pins s σ H x y v u Q I rx ry ⟨w, a, b, z, eH, ok, ra, rb, eg, gv⟩
  subst eH
  cases a with
  | tup xs =>
    cases b with
    | int k =>
      obtain ⟨p, vs, rfl, q1, r1⟩ := repB_tup ra
      rw [repB_int rb] at ry
      have eg' : (if 0 < xs.length ∧ xs.length ≤ 1000 ∧ k ≠ 1 ∧ -1000000 < k ∧ k ≤ 1000 then some (D.tup (List.replicate k.toNat xs).flatten) else none) = some z := eg
      have l1 := r1.length
      by_cases hl : 0 < xs.length ∧ xs.length ≤ 1000 ∧ k ≠ 1 ∧ -1000000 < k ∧ k ≤ 1000
      · rw [if_pos hl] at eg'; cases eg'
        have hne : vs ≠ [] := fun e => by rw [e] at l1; simp at l1; omega
        by_cases hk : k ≤ 0
        · have e0 : k.toNat = 0 := by omega
          rw [e0] at gv
          refine op_rep0 pins s σ _ _ _ v u Q I rx ry ⟨p, k, vs, rfl, rfl, SqT.same ok.sub q1, hne, hk, hl.2.2.2.1, fun b hb => ?_⟩
          exact giv_new ok gv hb (.tup (.inl (.inl upd_same)) .nil)
        · refine op_repT pins s σ _ _ _ v u Q I rx ry ⟨p, k, vs, rfl, rfl, SqT.same ok.sub q1, hne, by omega, by omega, by omega, fun b hb => ?_⟩
          exact giv_new ok gv hb (.tup (.inl (.inl upd_same)) ((r1.rep k.toNat).mono (same_upd (ok.f_none hb))))
      · rw [if_neg hl] at eg'; cases eg'
    | _ => cases eg
  | _ => cases b <;> cases eg
end
end Rz
namespace Rz
open PySem PySem.Spec PyProof.Rows L2
def flatV : D → Bool
  | .non => true
  | .bl _ => true
  | .int _ => true
  | .str _ => true
  | _ => false
def kPy : DK → PyData
  | .int i => .int i
  | .str s => .str ⟨s.toArray⟩
def kvPy (ks : List (DK × D)) : PyData := .dict (ks.map fun e => (kPy e.1, e.2.py))
def dReprK : List D → Option D
  | [.dct ks] => if (ks.all fun e => flatV e.2) && decide ((kvPy ks).depth ≤ 32) && (kvPy ks).showable && decide ((kvPy ks).shown.length ≤ 16777216) then some (.str (kvPy ks).shown.cps.toList) else none
  | l => dRepr l
section
variable {G : Nat → Addr} {X : Cx}
theorem reads_flat {h : Heap} {F : Hp} {d : D} {v : V} {u : Value} (r : Rep X.K G F v d) (hf : flatV d = true) (rv : RelV v u) : Reads h u d.py [] := by
  cases r with
  | non => cases (show u = Value.none from rv); exact .none
  | bl b => cases (show u = Value.bool b from rv); exact .bool b
  | int i => obtain ⟨t, rfl⟩ := (show ∃ t, u = Value.int i t from rv); exact .int i t
  | str s => obtain ⟨t, rfl⟩ := (show ∃ t, u = Value.str ⟨s.toArray⟩ t from rv); exact .str _ t
  | _ => cases hf
theorem reads_key {h : Heap} {k : DK} {u : Value} (hk : (mixKind X.prog X.w).is (kyV k) u = true) : Reads h u (kPy k) [] := by
  rcases keyIs_shape (show keyIs (kyV k) u = true from hk) with ⟨i, t, e, rfl⟩ | ⟨x, t, e, rfl⟩
  · cases k with
    | int j => cases e; exact .int _ t
    | str s => cases e
  · cases k with
    | int j => cases e
    | str s => cases e; exact .str _ t
theorem reads_kv {h : Heap} {F : Hp} : ∀ {es : List DictEntry} {vv : List (Key × Value)} {kvs : List (Key × V)} {ks : List (DK × D)}, Pairs (mixKind X.prog X.w) es vv → KV kvs vv → RepK X.K G F kvs ks → (∀ e ∈ ks, flatV e.2 = true) →
    ReadsAll h (es.map (·.key)) (ks.map fun e => kPy e.1) [] ∧ ReadsAll h (es.map (·.val)) (ks.map fun e => e.2.py) []
  | _, _, _, _, .nil, q, rk, _ => by
    cases q
    cases rk
    exact ⟨.nil, .nil⟩
  | _, _, _, _, .cons h1 h2 p, q, rk, hf => by
    cases q with
    | cons q t =>
      cases rk with
      | cons r rk =>
        obtain ⟨i1, i2⟩ := reads_kv (h := h) p t rk fun e he => hf e (.tail _ he)
        obtain ⟨q1, q2⟩ := q
        dsimp only at q1 q2
        rw [← q1] at h1
        have a1 := reads_key (h := h) h1
        have a2 := reads_flat (h := h) r (hf _ (.head _)) (h2.symm ▸ q2)
        exact ⟨ReadsAll.cons a1 i1, ReadsAll.cons a2 i2⟩
theorem callS_reprK (hg : X.A.guards = some []) (hu : X.A.units + 64 < cLine) : CallS X G (.builtin "repr") dReprK := by
  intro pins s σ H xs us Q I r h
  obtain ⟨w, ds, z, eH, ok, rb, eg, gv⟩ := id h
  unfold dReprK at eg
  split at eg
  · rename_i ks
    subst eH
    obtain ⟨v, rfl, r1⟩ := rep1 rb
    obtain ⟨u, rfl, r2⟩ := vals1 r
    split at eg
    · rename_i h
      cases eg
      obtain ⟨h123, h4⟩ := Bool.and_eq_true_iff.mp h
      obtain ⟨h12, h3⟩ := Bool.and_eq_true_iff.mp h123
      obtain ⟨h1, h2⟩ := Bool.and_eq_true_iff.mp h12
      have h4 := of_decide_eq_true h4
      have h2 := of_decide_eq_true h2
      obtain ⟨p, kvs, rfl, hd, rk⟩ := repB_dct ok r1
      cases (show u = Value.ref p from r2)
      obtain ⟨_, hs, vv, rel, o, es, ep, ho, hc, hde, _, hp, _⟩ := dk_rd I.hok hd
      obtain ⟨a1, a2⟩ := reads_kv (h := s.heap) hp rel rk (List.all_eq_true.mp h1)
      have rs : Reads s.heap (.ref p) (kvPy ks) (p :: [] ++ []) := by
        refine Reads.dict ho hc.1 hde ?_ ?_
        · rw [List.map_map]; exact a1
        · rw [List.map_map]; exact a2
      refine PySem.repr_of_reads' rs h3 (fun _ hm => ?_) hg (by omega) (fun _ _ e => e) (fun h' t tk hk => ?_) (by rw [sizeLine_eq]; exact h4)
      · have e : sysModules = p := by simpa using hm
        rw [← e] at hs
        simp at hs
      · exact ⟨.str (kvPy ks).shown, w.H, I.kept hk, ⟨t, rfl⟩, giv_txt ok gv⟩
    · cases eg
  · exact callS_repr hg hu pins s σ H xs us Q I r ⟨w, ds, z, eH, ok, rb, eg, gv⟩
end
end Rz
namespace Rz
open PySem PySem.Spec PyProof.Rows L2
theorem sysB_ok {K : PySem.W.Frag} (h : sysB K = true) : ∃ o, K.lookup sysModules = some o ∧ o.cls = .type "dict" := by
  unfold sysB at h
  split at h
  · rename_i c _ _ _ e
    exact ⟨_, e, by rw [of_decide_eq_true h]⟩
  · cases h
mutual
def pyN : D → PyData
  | .non => .none
  | .bl b => .bool b
  | .int i => .int i
  | .str s => .str ⟨s.toArray⟩
  | .tup xs => .tuple (pyNL xs)
  | .lst xs => .list (pyNL xs)
  | .dct ks => .dict (pyNK ks)
  | .ins _ _ => .none
  | .scr _ => .none
def pyNL : List D → List PyData
  | [] => []
  | x :: xs => pyN x :: pyNL xs
def pyNK : List (DK × D) → List (PyData × PyData)
  | [] => []
  | e :: ks => (kPy e.1, pyN e.2) :: pyNK ks
end
mutual
def plN : D → Bool
  | .ins _ _ => false
  | .scr _ => false
  | .tup xs => plNL xs
  | .lst xs => plNL xs
  | .dct ks => plNK ks
  | _ => true
def plNL : List D → Bool
  | [] => true
  | x :: xs => plN x && plNL xs
def plNK : List (DK × D) → Bool
  | [] => true
  | e :: ks => plN e.2 && plNK ks
end
def okN (d : D) : Bool := plN d && decide ((pyN d).depth ≤ 32) && (pyN d).showable && decide ((pyN d).shown.length ≤ 16777216)
def dReprN : List D → Option D
  | [.tup xs] => if okN (.tup xs) then some (.str (pyN (.tup xs)).shown.cps.toList) else none
  | [.lst xs] => if okN (.lst xs) then some (.str (pyN (.lst xs)).shown.cps.toList) else none
  | [.dct ks] => if okN (.dct ks) then some (.str (pyN (.dct ks)).shown.cps.toList) else none
  | l => dRepr l
section
variable {G : Nat → Addr} {X : Cx}
theorem keys_reads {h : Heap} : ∀ {es : List DictEntry} {vv : List (Key × Value)} {kvs : List (Key × V)} {ks : List (DK × D)} {F : Hp}, Pairs (mixKind X.prog X.w) es vv → KV kvs vv → RepK X.K G F kvs ks → ReadsAll h (es.map (·.key)) ((pyNK ks).map (·.1)) []
  | _, _, _, _, _, .nil, q, rk => by
    cases q
    cases rk
    exact .nil
  | _, _, _, _, _, .cons h1 h2 p, q, rk => by
    cases q with
    | cons q t =>
      cases rk with
      | cons r rk =>
        have i1 := keys_reads (h := h) p t rk
        obtain ⟨q1, q2⟩ := q
        dsimp only at q1 q2
        rw [← q1] at h1
        have a1 := reads_key (h := h) h1
        exact ReadsAll.cons a1 i1
theorem vals_of : ∀ {es : List DictEntry} {vv : List (Key × Value)} {kvs : List (Key × V)}, Pairs (mixKind X.prog X.w) es vv → KV kvs vv → Vals (kvs.map (·.2)) (es.map (·.val))
  | _, _, _, .nil, q => by
    cases q
    exact .nil
  | _, _, _, .cons h1 h2 p, q => by
    cases q with
    | cons q t =>
      obtain ⟨q1, q2⟩ := q
      refine .cons ?_ (vals_of p t)
      dsimp only
      rw [h2]
      exact q2
section
variable {pins : List (Addr × Obj)} {σ : L2.St} {F H : Hp} {s : Shared} (I : Inv X pins σ H s) (hF : Same F H) (hk : ∃ o, X.K.lookup sysModules = some o ∧ o.cls = .type "dict")
include I hF hk
mutual
theorem readsN : ∀ {v : V} {d : D} {u : Value}, Rep X.K G F v d → plN d = true → RelV v u → ∃ as, Reads s.heap u (pyN d) as ∧ sysModules ∉ as
  | _, _, u, .non, _, r => by
    cases (show u = Value.none from r)
    exact ⟨[], .none, by simp⟩
  | _, _, u, .bl b, _, r => by
    cases (show u = Value.bool b from r)
    exact ⟨[], .bool b, by simp⟩
  | _, _, u, .int i, _, r => by
    obtain ⟨t, rfl⟩ := (show ∃ t, u = Value.int i t from r)
    exact ⟨[], .int i t, by simp⟩
  | _, _, u, .str x, _, r => by
    obtain ⟨t, rfl⟩ := (show ∃ t, u = Value.str ⟨x.toArray⟩ t from r)
    exact ⟨[], .str _ t, by simp⟩
  | _, _, u, .tup (a := a) q rr, hp, r => by
    cases (show u = Value.ref a from r)
    obtain ⟨its, rv, ⟨o, ho, hc, n, hd⟩, hz⟩ := I.tuple (SqT.same hF q)
    obtain ⟨as, ra, na⟩ := readsNL rr hp rv
    exact ⟨as, .tuple ho hc hd (by simpa using ra), na⟩
  | _, _, u, .lst (a := a) q rr, hp, r => by
    cases (show u = Value.ref a from r)
    obtain ⟨its, rv, ⟨o, n, ho, hc, hdn, hd⟩, hz⟩ := I.list (.inl (.inl (hF _ _ q)))
    obtain ⟨as, ra, na⟩ := readsNL rr hp rv
    refine ⟨a :: as, .list ho hc hd (by simpa using ra), fun hm => ?_⟩
    rcases List.mem_cons.mp hm with e | e
    · obtain ⟨o', h1, h2⟩ := hk
      have h3 := I.kIn _ _ h1
      rw [e, ho] at h3
      cases h3
      rw [hc] at h2
      exact absurd h2 (by decide)
    · exact na e
  | _, _, u, .dct (a := a) (kvs := kvs) q rk, hp, r => by
    cases (show u = Value.ref a from r)
    obtain ⟨_, hs, vv, rel, o, es, ep, ho, hc, hde, _, hpp, _⟩ := dk_rd I.hok (.inr ⟨_, hF _ _ q⟩ : Rd H a (.dK kvs))
    have a1 := keys_reads (h := s.heap) hpp rel rk
    obtain ⟨as, a2, na⟩ := readsNK rk hp (vals_of hpp rel)
    refine ⟨a :: [] ++ as, .dict ho hc.1 hde a1 a2, fun hm => ?_⟩
    rcases List.mem_cons.mp hm with e | e
    · rw [← e] at hs
      simp at hs
    · exact na e
  | _, _, _, .ins _ _, hp, _ => by cases hp
  | _, _, _, .scr _, hp, _ => by cases hp
theorem readsNL : ∀ {vs : List V} {ds : List D} {us : List Value}, RepL X.K G F vs ds → plNL ds = true → Vals vs us → ∃ as, ReadsAll s.heap us (pyNL ds) as ∧ sysModules ∉ as
  | _, _, _, .nil, _, r => by
    cases r
    exact ⟨[], .nil, by simp⟩
  | _, _, _, .cons q t, hp, r => by
    obtain ⟨h1, h2⟩ := Bool.and_eq_true_iff.mp (show (_ && _) = true from hp)
    cases r with
    | cons r1 r2 =>
      obtain ⟨a1, x1, n1⟩ := readsN q h1 r1
      obtain ⟨a2, x2, n2⟩ := readsNL t h2 r2
      exact ⟨a1 ++ a2, .cons x1 x2, fun hm => (List.mem_append.mp hm).elim n1 n2⟩
theorem readsNK : ∀ {kvs : List (Key × V)} {ks : List (DK × D)} {us : List Value}, RepK X.K G F kvs ks → plNK ks = true → Vals (kvs.map (·.2)) us → ∃ as, ReadsAll s.heap us ((pyNK ks).map (·.2)) as ∧ sysModules ∉ as
  | _, _, _, .nil, _, r => by
    cases r
    exact ⟨[], .nil, by simp⟩
  | _, _, _, .cons q t, hp, r => by
    obtain ⟨h1, h2⟩ := Bool.and_eq_true_iff.mp (show (_ && _) = true from hp)
    cases r with
    | cons r1 r2 =>
      obtain ⟨a1, x1, n1⟩ := readsN q h1 r1
      obtain ⟨a2, x2, n2⟩ := readsNK t h2 r2
      exact ⟨a1 ++ a2, .cons x1 x2, fun hm => (List.mem_append.mp hm).elim n1 n2⟩
end
theorem readsB {w : Wd} (eH : H = w.H) (eF : F = w.F) {v : V} {d : D} {u : Value} (rb : RepB X.K G w v d) (hp : plN d = true) (r : RelV v u) : ∃ as, Reads s.heap u (pyN d) as ∧ sysModules ∉ as := by
  subst eF eH
  cases rb with
  | fz h => exact readsN I hF hk h hp r
  | @ml a vs xs hH rr =>
    cases (show u = Value.ref a from r)
    obtain ⟨its, rv, ⟨o, n, ho, hc, hdn, hd⟩, hz⟩ := I.list (.inl (.inl hH))
    obtain ⟨as, ra, na⟩ := readsNL I hF hk rr hp rv
    refine ⟨a :: as, .list ho hc hd (by simpa using ra), fun hm => ?_⟩
    rcases List.mem_cons.mp hm with e | e
    · obtain ⟨o', h1, h2⟩ := hk
      have h3 := I.kIn _ _ h1
      rw [e, ho] at h3
      cases h3
      rw [hc] at h2
      exact absurd h2 (by decide)
    · exact na e
  | @md a kvs ks hH rk =>
    cases (show u = Value.ref a from r)
    obtain ⟨_, hs, vv, rel, o, es, ep, ho, hc, hde, _, hpp, _⟩ := dk_rd I.hok (.inl hH : Rd w.H a (.dK kvs))
    have a1 := keys_reads (h := s.heap) hpp rel rk
    obtain ⟨as, a2, na⟩ := readsNK I hF hk rk hp (vals_of hpp rel)
    refine ⟨a :: [] ++ as, .dict ho hc.1 hde a1 a2, fun hm => ?_⟩
    rcases List.mem_cons.mp hm with e | e
    · rw [← e] at hs
      simp at hs
    · exact na e
  | mi _ _ => cases hp
end
theorem callS_reprN (hg : X.A.guards = some []) (hu : X.A.units + 64 < cLine) (hk : ∃ o, X.K.lookup sysModules = some o ∧ o.cls = .type "dict") : CallS X G (.builtin "repr") dReprN := by
  intro pins s σ H xs us Q I r h
  obtain ⟨w, ds, z, eH, ok, rb, eg, gv⟩ := id h
  have fin : ∀ (d : D) (a : Addr), ds = [d] → xs = [V.ref a] → (if okN d then some (D.str (pyN d).shown.cps.toList) else none) = some z → wpAny (model X.prog X.w) X.A (call (.builtin "repr") us) (EP X pins σ Q) X.xe s := fun d a hd hx e => by
    subst eH hd hx
    obtain ⟨_, e1, r1⟩ := rep1 rb
    cases e1
    obtain ⟨u, rfl, r2⟩ := vals1 r
    split at e
    · rename_i h
      cases e
      unfold okN at h
      obtain ⟨h123, h4⟩ := Bool.and_eq_true_iff.mp h
      obtain ⟨h12, h3⟩ := Bool.and_eq_true_iff.mp h123
      obtain ⟨h1, h2⟩ := Bool.and_eq_true_iff.mp h12
      have h4 := of_decide_eq_true h4
      have h2 := of_decide_eq_true h2
      obtain ⟨as, rs, na⟩ := readsB I ok.sub hk rfl rfl r1 h1 r2
      cases (show u = Value.ref a from r2)
      refine PySem.repr_of_reads' rs h3 (fun _ => na) hg (by omega) (fun _ _ e => e) (fun h' t tk hk => ?_) (by rw [sizeLine_eq]; exact h4)
      exact ⟨.str (pyN d).shown, w.H, I.kept hk, ⟨t, rfl⟩, giv_txt ok gv⟩
    · cases e
  unfold dReprN at eg
  split at eg
  · rename_i ys
    obtain ⟨v, rfl, r1⟩ := rep1 rb
    obtain ⟨p, vs, rfl, _⟩ := repB_tup r1
    exact fin _ p rfl rfl eg
  · rename_i ys
    obtain ⟨v, rfl, r1⟩ := rep1 rb
    obtain ⟨p, vs, rfl, _⟩ := repB_lst ok r1
    exact fin _ p rfl rfl eg
  · rename_i ks
    obtain ⟨v, rfl, r1⟩ := rep1 rb
    obtain ⟨p, kvs, rfl, _⟩ := repB_dct ok r1
    exact fin _ p rfl rfl eg
  · exact callS_repr hg hu pins s σ H xs us Q I r ⟨w, ds, z, eH, ok, rb, eg, gv⟩
end
end Rz
namespace Rz
open PySem PySem.Spec PyProof.Rows L2
def catM (ml : M (List D)) : M Sl := bindM ml fun ds => match ds with
  | [.lst xs, .lst ys] => if xs.length + ys.length ≤ 16777216 then pureM (.ml (xs ++ ys)) else badM
  | _ => badM
@[simp] theorem catM_ap (ml : M (List D)) (st : Env) : catM ml st = (ml st).bind fun ds => match ds with
  | [.lst xs, .lst ys] => if xs.length + ys.length ≤ 16777216 then pureM (.ml (xs ++ ys)) else badM
  | _ => badM := rfl
section
variable {G : Nat → Addr} {X : Cx} {W : WX} {a b e : Expr} {pos : Pos}
theorem snd_cat {ml : M (List D)} (hl : SndL G X W [a, b] ml) : SndV G X W (.BinOp a .Add b pos) (catM ml) := by
  intro w st σ Q r p
  refine RunE.of (pe_op op_cat pe_run pe_run) ?_
  have h := Snd.bind (run1 := RunL X [a, b]) (Q1 := fun vs H => match vs with | [x, y] => rCat x y H Q | _ => False) hl older_V r p fun ds us w1 st1 r1 s1 q1 p1 => ?_
  · exact h
  · cases q1 with
    | nil => exact p1.elim
    | cons b1 q1 =>
      cases q1 with
      | nil => rename_i d; cases d <;> exact p1.elim
      | cons b2 q1 =>
        cases q1 with
        | cons b3 q1 => rename_i x0 d0 x1 d1 x2 x3 d2 ds2; cases d0 <;> first | exact p1.elim | (cases d1 <;> exact p1.elim)
        | nil =>
          rename_i x d y d'
          cases d with
          | lst xs =>
            cases d' with
            | lst ys =>
              have p2 : Post X.K G (RV X.K G) w1 σ W ((if xs.length + ys.length ≤ 16777216 then pureM (.ml (xs ++ ys)) else badM : M Sl) st1) Q := p1
              by_cases hk : xs.length + ys.length ≤ 16777216
              · rw [if_pos hk] at p2
                obtain ⟨p, vs, rfl, hH, rr⟩ := repB_lst r1.ok b1
                obtain ⟨p', ws, rfl, hH', rr'⟩ := repB_lst r1.ok b2
                refine ⟨p, p', vs, ws, rfl, rfl, hH, hH', by rw [rr.length, rr'.length, sizeLine_eq]; exact hk, fun q hq => ?_⟩
                have g := Wd.new_grw (o := .lst (vs ++ ws)) hq
                exact p2 (.ref q) (w1.new q (.lst (vs ++ ws))) (r1.grow (Wd.new_ok r1.ok hq) g) (g.step r1.ok) ⟨q, _, rfl, hq, r1.ok.k_oth hq, upd_same, rr.append rr'⟩
              · rw [if_neg hk] at p2; exact p2.elim
            | _ => exact p1.elim
          | _ => exact p1.elim
end
end Rz
namespace Rz
open PySem PySem.Spec PyProof.Rows L2
structure ExcF (K : PySem.W.Frag) (C : Addr) : Prop where
  e : PySem.W.excIn K C veL "ValueError.__new__" = true
  k : PySem.W.keepIn K (.ref C) = true
  b : PySem.W.subIn K (.ref C) (.type "BaseException") = some true
  t : PySem.W.typeIn K (.ref C) = some (.type "type")
theorem excB_ok {K : PySem.W.Frag} {x : Str} (h : excB K x = true) : ExcF K (He.ga K x) := by
  unfold excB at h
  obtain ⟨h1, h2⟩ := Bool.and_eq_true_iff.mp h
  obtain ⟨h3, h4⟩ := Bool.and_eq_true_iff.mp h1
  obtain ⟨h5, h6⟩ := Bool.and_eq_true_iff.mp h3
  exact ⟨h5, h6, of_decide_eq_true h4, of_decide_eq_true h2⟩
def calmM (m : M Fl) : M Fl := fun st => match m st with
  | .exc _ _ => .bad
  | o => o
def hdM : List (List Nat × List Nat × (Ex → M Fl)) → Ex → M Fl
  | [], x => excM x
  | (y, n, h) :: r, x => fun st => if y.contains x.c then calmM (h x) st else if n.contains x.c then hdM r x st else .bad
def tryM (hs : List (List Nat × List Nat × (Ex → M Fl))) (mb : M Fl) : M Fl := fun st => match mb st with
  | .exc x st' => hdM hs x st'
  | o => o
section
variable {G : Nat → Addr} {X : Cx} {W : WX} {pr : List Nat}
theorem sc_raise {x m : Str} {c j : Nat} {p p2 pos pos' : Pos} (tk : Takes X W) (F : ExcF X.K (G c)) (gC : X.mg x = some (.ref (G c))) (hg : Gl X x) (hc : X.calm = true := by rfl)
    (hdb : (x == ("__debug__" : Str)) = false := by decide) : SndC G X W pr (.Raise (some (.Call (.Name x p) [.Constant (.str m) j p2] [] pos)) none pos') (excM ⟨c, []⟩) := by
  intro w0 w st σ D ok0 r s own h
  refine RunS.of (ps_raise hc tk (pmk_own PySem.F.excBase_ValueError F.e gC F.k (raises_own F.b F.t) hg hdb)) ?_
  exact h (.ref (G c)) none w σ r s (Same.refl _) (Kept.refl _ _) ⟨rfl, .inl ⟨rfl, rfl⟩⟩
inductive HdR (G : Nat → Addr) (X : Cx) (pr : List Nat) : List ExceptHandler → List (List Nat × List Nat × (Ex → M Fl)) → Prop
  | nil : HdR G X pr [] []
  | cons {x : Str} {c : Value} {y n : List Nat} {h : Ex → M Fl} {b₀ : Stmt} {suite : List Stmt} {np pos' : Pos} {hds : List ExceptHandler} {l : List (List Nat × List Nat × (Ex → M Fl))} (hc : Names X x c)
      (hy : ∀ k ∈ y, PySem.W.exmOne X.K (.ref (G k)) c = some true) (hn : ∀ k ∈ n, PySem.W.exmOne X.K (.ref (G k)) c = some false)
      (hs : ∀ (a : Addr) (oe : Obj) (pn : List (Addr × Obj)) (e : Ex), SndB G (X.suite a ((a, oe) :: pn)) (fun _ _ _ _ => False) pr (b₀ :: suite) (h e)) (r : HdR G X pr hds l) :
      HdR G X pr (.ExceptHandler (some (.Name x np)) none (b₀ :: suite) pos' :: hds) ((y, n, h) :: l)
theorem postS_calm {K : PySem.W.Frag} {w0 : Wd} {F : Hp} {σ : L2.St} {W' : WX} {m : M Fl} {st : Env} {Dn : Ends} (h : PostS K G w0 F pr σ W' (calmM m st) Dn) : PostS K G w0 F pr σ (fun _ _ _ _ => False) (m st) Dn := by
  unfold calmM at h
  cases e : m st with
  | ok f st' => rw [e] at h; cases f <;> exact h
  | exc x st' => rw [e] at h; exact h.elim
  | bad => rw [e] at h; exact h
theorem sc_try {body : List Stmt} {mb : M Fl} {h₀ : ExceptHandler} {hds : List ExceptHandler} {l : List (List Nat × List Nat × (Ex → M Fl))} {pos : Pos} (hs : X.stack = X.env :: X.outer) (hf : X.env.frame = some X.env.locals) (tk : Takes X W)
    (hb : ∀ (W' : WX) (pn : List (Addr × Obj)) (xe : Value → Shared → Prop), Takes (X.tr pn xe) W' → PassesOwn (model X.prog X.w) X.A X.env xe → SndB G (X.tr pn xe) W' pr body mb)
    (hh : HdR G X pr (h₀ :: hds) l) : SndC G X W pr (.Try body (h₀ :: hds) [] [] pos) (tryM l mb) := by
  intro w0 w st σ D ok0 r s own p
  have mk : ∀ {hs' : List ExceptHandler} {l' : List (List Nat × List Nat × (Ex → M Fl))}, HdR G X pr hs' l' → ∃ q : List (Value × (Addr → Value → Option Addr → TS)), HdsOk X hs' q ∧
      ∀ (x : Ex) (st' : Env) (F : Hp) (σ1 : L2.St), PostS X.K G w0 F pr σ1 W (hdM l' x st') D → ∀ c d w' σ', Rel X.K G w' st' σ' → Step w0 w' → Same F w'.F → Kept pr σ1 σ' → ExR X.K G w' c d x → wMany X.K W D q c d σ' w'.H := by
    intro hs' l' hk
    induction hk with
    | nil => exact ⟨[], .nil, fun x st' F σ1 h c d w' σ' r' s' f k q => h c d w' σ' r' s' f k q⟩
    | @cons x c y n h b₀ suite np pos' hds l' hc hy hn hs2 hr ih =>
      obtain ⟨q, hq, hw⟩ := ih
      refine ⟨(c, fun a _ _ D σ H => ∀ (oe : Obj) (pn : List (Addr × Obj)), RunB (X.suite a ((a, oe) :: pn)) (b₀ :: suite) D σ H) :: q, .cons hc (fun a oe cls d pn hz hfl => ⟨fun pins s σ H D I z => z oe pn pins s I⟩) hq, ?_⟩
      intro e st' F σ1 hp cls d w' σ' r' s' f k ex
      have ecls := ex.1
      have hp : PostS X.K G w0 F pr σ1 W (if y.contains e.c then calmM (h e) st' else if n.contains e.c then hdM l' e st' else .bad) D := hp
      by_cases q1 : y.contains e.c = true
      · rw [if_pos q1] at hp
        refine ⟨true, by rw [ecls]; exact hy e.c (by simpa using q1), fun _ a na oe pn => ?_, fun z => by cases z⟩
        exact hs2 a oe pn e w0 w' st' σ' D ok0 r' s' own (postS_calm (PostS.shift hp f k))
      · rw [if_neg q1] at hp
        by_cases q2 : n.contains e.c = true
        · rw [if_pos q2] at hp
          refine ⟨false, by rw [ecls]; exact hn e.c (by simpa using q2), (fun z => by cases z), fun _ => hw e st' F σ1 hp cls d w' σ' r' s' f k ex⟩
        · rw [if_neg q2] at hp; exact hp.elim
  obtain ⟨q, hq, hw⟩ := mk hh
  refine RunS.of (ps_try_many (tb := fun W' D σ H => ∀ (pn : List (Addr × Obj)) (xe : Value → Shared → Prop), Takes (X.tr pn xe) W' → PassesOwn (model X.prog X.w) X.A X.env xe → RunB (X.tr pn xe) body D σ H) hs hf tk
    (fun W' pn xe tk2 ow => ⟨fun pins s σ H D I z => z pn xe tk2 ow pins s I⟩) hq) ?_
  intro pn xe tk2 ow
  refine hb _ pn xe tk2 ow w0 w st σ D ok0 r s own ?_
  unfold tryM at p
  cases e : mb st with
  | ok f st' => rw [e] at p; cases f <;> exact p
  | exc x st' =>
    rw [e] at p
    exact fun c d w' σ' r' s' f k ex => hw x st' w.F σ p c d w' σ' r' s' f k ex
  | bad => rw [e] at p; exact p
end
end Rz
namespace Rz
open PySem PySem.Spec PyProof.Rows L2 NdefX ClX
def newOutX (c : Nat) (r : Res) (st : Env) : Out Sl := match r with
  | .ret (.fz .non) [.mi c' fs] => if c' = c then .ok (.mi c fs) st else .bad
  | .exc x [_] => .exc x st
  | _ => .bad
def cutF (n : Nat) (f : Env → Res) : Env → Res := fun args => if args.length = n then f args else .bad
theorem fnI_ofA {P : Program} {w : World} {K : PySem.W.Frag} {mg : Str → Option Value} {base : Heap} {G : Nat → Addr} {k n : Nat} {fa : Addr} {f : Env → Res} (F : FnA P w K mg base G k fa n [0] f) : FnI P w K mg base G k fa [] (cutF n f) := by
  obtain ⟨fd, ps, h1, h2, h3, hb, hl, F⟩ := F.ex
  refine ⟨fun A outer s H us ws self rv zs Q E hr e0 r rz hz h4 h5 sp => ?_⟩
  have hz : zs = [] := List.length_eq_zero_iff.mp (by simpa using hz)
  subst hz
  cases rz
  have sp2 : spM K G n [0] f (self :: rv) H Q E := by
    obtain ⟨a1, w1, args, a2, a3, a4, a5, a6⟩ := sp
    have hal := a4.1
    rw [List.append_nil] at a1 a4 hal a6
    unfold cutF at a6
    by_cases q : args.length = n
    · rw [if_pos q] at a6
      exact ⟨by rw [hal, q], w1, args, a2, a3, a4, a5, a6⟩
    · rw [if_neg q] at a6; exact a6.elim
  have hlu : us.length = ps.length := by rw [← r.length, hl]; exact sp2.1
  have KX : K.In s.heap := e0.mod.kin.keeps fun b o e => (e0.bs b o e).1
  have b := hb s us KX (by rw [List.append_nil]; exact hlu)
  rw [List.append_nil] at b
  exact F.run A outer s H ⟨us, []⟩ us (self :: rv) Q E hr e0 b r sp2
section
variable {K : PySem.W.Frag} {G : Nat → Addr} {w : Wd} {W : WX}
theorem make_spX {f : Env → Res} {st : Env} {σ : L2.St} {vs : List V} {ds : List D} {c : Nat} {x dx : Addr} {Q : VK} (r : Rel K G w st σ) (hv : RepL K G w.F vs ds) (hx : w.H x = none) (hd : w.H dx = none) (hne : dx ≠ x)
    (p : Post K G (RV K G) w σ W (newOutX c (f (.mi c [] :: ds.map .fz)) st) Q) :
    spM K G ((V.ref x :: vs).length) [0] f (.ref x :: vs) (upd (upd w.H dx (.own x)) x (.ins (G c) dx [])) (fun v H2 => v = .non ∧ Q (.ref x) H2) (WE (fun c d _ H => W c d σ H) (σ ++ [some (.ref x)])) := by
  have ok1 := Wd.new_ok r.ok (o := .own x) hd
  have g1 : Grw w (w.new dx (.own x)) := Wd.new_grw hd
  have hx1 : (w.new dx (.own x)).H x = none := by
    show upd w.H dx _ x = none
    rw [upd_ne (Ne.symm hne)]; exact hx
  have ok2 := Wd.new_ok ok1 (o := .ins (G c) dx []) hx1
  have g2 : Grw (w.new dx (.own x)) ((w.new dx (.own x)).new x (.ins (G c) dx [])) := Wd.new_grw hx1
  have hxs : ((w.new dx (.own x)).new x (.ins (G c) dx [])).H x = some (.ins (G c) dx []) := upd_same
  have kx : (w.new dx (.own x)).k x = .oth := ok1.k_oth hx1
  have ok3 := Wd.own_ok ok2 (i := st.length) hxs (by show (w.new dx (.own x)).k x ≠ .frz; rw [kx]; intro z; cases z)
  have s3 : Step w (((w.new dx (.own x)).new x (.ins (G c) dx [])).own x st.length) := (g1.step r.ok).trans ok1 ok3 (own_step ok1 hx1)
  have rg := (r.grow ok1 g1).grow ok2 g2
  have hF3 : (((w.new dx (.own x)).new x (.ins (G c) dx [])).own x st.length).F = w.F := rfl
  have hH3 : (((w.new dx (.own x)).new x (.ins (G c) dx [])).own x st.length).H = upd (upd w.H dx (.own x)) x (.ins (G c) dx []) := rfl
  have hk3 : (((w.new dx (.own x)).new x (.ins (G c) dx [])).own x st.length).k x = .own st.length := by show (if x = x then _ else _) = _; rw [if_pos rfl]
  have r3 : Rel K G (((w.new dx (.own x)).new x (.ins (G c) dx [])).own x st.length) (st ++ [.mi c []]) (σ ++ [some (.ref x)]) := by
    refine ⟨ok3, by simp [r.len], fun i s e => ?_, r.tk.step s3⟩
    by_cases hi : i < st.length
    · rw [List.getElem?_append_left hi] at e
      obtain ⟨y, hy, q⟩ := rg.at_ i s e
      refine ⟨y, by rw [List.getElem?_append_left (by rw [r.len]; exact hi)]; exact hy, SlotR.lab (w := (w.new dx (.own x)).new x (.ins (G c) dx [])) (w' := ((w.new dx (.own x)).new x (.ins (G c) dx [])).own x st.length) rfl rfl (fun a ka => ?_) q⟩
      show (if a = x then _ else _) = _
      have : a ≠ x := by rintro rfl; have ka : (w.new dx (.own a)).k a = .own i := ka; rw [kx] at ka; cases ka
      rw [if_neg this]; exact ka
    · have hi' : i = st.length := by
        have := (List.getElem?_eq_some_iff.mp e).1
        simp at this
        omega
      subst hi'
      rw [List.getElem?_append_right (Nat.le_refl _)] at e
      simp at e
      subst e
      exact ⟨some (.ref x), by rw [← r.len, List.getElem?_append_right (Nat.le_refl _)]; simp, x, dx, [], rfl, hk3, by rw [hH3]; exact upd_same, .nil⟩
  generalize hw3 : ((w.new dx (.own x)).new x (.ins (G c) dx [])).own x st.length = w3 at *
  have hal : AgL K G (σ ++ [some (.ref x)]) w3 (.ref x :: vs) (.io st.length :: ds.map Ag.d) := .cons (by show (σ ++ [some (.ref x)])[st.length]? = _; rw [← r.len, List.getElem?_append_right (Nat.le_refl _)]; simp) (agl_d (by rw [hF3]; exact hv))
  have hslx : (st ++ [Sl.mi c []])[st.length]? = some (.mi c []) := by rw [List.getElem?_append_right (Nat.le_refl _)]; simp
  have hk : agsOk (st ++ [.mi c []]) (.io st.length :: ds.map Ag.d) [0] = true := by
    unfold agsOk
    rw [List.all_eq_true]
    intro i hi
    cases i with
    | zero =>
      show (decide (rho (.io st.length :: ds.map Ag.d) st.length = some 0) && ownd (((st ++ [Sl.mi c []])[st.length]?).getD .un) && [0].contains 0) = true
      rw [hslx]
      have : rho (.io st.length :: ds.map Ag.d) st.length = some 0 := by
        unfold rho
        rw [List.findIdx?_cons]
        have : isIO st.length (.io st.length) = true := by unfold isIO; simp
        rw [this]; rfl
      rw [this]
      rfl
    | succ i =>
      rw [List.getElem?_cons_succ, List.getElem?_map]
      cases ds[i]? <;> rfl
  have hsl : (Ag.io st.length :: ds.map Ag.d).map (slOf (st ++ [.mi c []])) = .mi c [] :: ds.map .fz := by
    rw [List.map_cons, List.map_map]
    have : slOf (st ++ [.mi c []]) (.io st.length) = .mi c [] := by show ((st ++ [Sl.mi c []])[st.length]?).getD .un = _; rw [hslx]; rfl
    rw [this]
    rfl
  rw [← hH3]
  refine sp_of (w0 := w3) (io := [0]) r3 hal hk _ rfl ?_
  rw [hsl]
  unfold newOutX at p
  split at p
  · rename_i c' fs ef
    rw [ef]
    by_cases hc : c' = c
    · subst hc
      rw [if_pos rfl] at p
      show Post K G (RV K G) w3 _ _ (Out.ok (.fz .non) ((st ++ [Sl.mi c' []]).set st.length (.mi c' fs))) _
      intro u w' r' s' q
      have q : Rep K G w'.F u .non := q
      cases q
      refine ⟨rfl, ?_⟩
      obtain ⟨y, hy, a, dx', vs', ey, ka, ha, ra⟩ := r'.at_ st.length (.mi c' fs) (by simp)
      have ex : y = some (.ref x) := by
        rw [← r.len, List.getElem?_append_right (Nat.le_refl _)] at hy
        simpa using hy.symm
      rw [ex] at ey
      cases ey
      have okd := Wd.drp_ok r'.ok (a := x) (by rw [ka]; intro z; cases z)
      refine p (.ref x) (w'.drp x) ⟨okd, r.len, fun i s e => ?_, r'.tk.upd (a := x) (by rw [ka]; intro q z; cases z) rfl⟩ ⟨s3.f.trans s'.f, fun b o e k => ?_, fun b e => s3.d b (s'.d b e), fun b i => ?_, fun b i e => ?_⟩ ⟨x, dx', vs', rfl, hx, ?_, ha, ra⟩
      · have hi : i < st.length := (List.getElem?_eq_some_iff.mp e).1
        obtain ⟨y, hy, q⟩ := r'.at_ i s (by rw [List.getElem?_set_ne (by omega), List.getElem?_append_left hi]; exact e)
        refine ⟨y, by rw [List.getElem?_append_left (by rw [r.len]; exact hi)] at hy; exact hy, SlotR.lab (w := w') (w' := w'.drp x) rfl rfl (fun b kb => ?_) q⟩
        show (if b = x then _ else _) = _
        have : b ≠ x := by rintro rfl; rw [ka] at kb; cases kb; omega
        rw [if_neg this]; exact kb
      · obtain ⟨e1, k1⟩ := s3.o b o e k
        obtain ⟨e2, k2⟩ := s'.o b o e1 k1
        have : b ≠ x := ne_of_none e hx
        exact ⟨e2, by show (if b = x then _ else _) = _; rw [if_neg this]; exact k2⟩
      · have s4 := s3.trans ok3 r'.ok s'
        refine (s4.t b i).trans ?_
        show _ ↔ (if b = x then _ else _) = _
        by_cases q : b = x
        · subst q; rw [if_pos rfl, ka]; exact ⟨fun z => (by cases z), fun z => (by cases z)⟩
        · rw [if_neg q]
      · have s4 := s3.trans ok3 r'.ok s'
        obtain ⟨o, eo⟩ := r.ok.ko b i e
        have : b ≠ x := ne_of_none eo hx
        rcases s4.w b i e with h | h
        · exact .inl (by show (if b = x then _ else _) = _; rw [if_neg this]; exact h)
        · exact .inr (by show (if b = x then _ else _) = _; rw [if_neg this]; exact h)
      · show (if x = x then Kd.oth else _) = _
        rw [if_pos rfl]
    · rw [if_neg hc] at p; exact p.elim
  · rename_i x' o' ef
    rw [ef]
    show Post K G (RV K G) w3 _ _ (Out.exc x' ((st ++ [Sl.mi c []]).set st.length o')) _
    intro cls d w' r' s' q
    refine p cls d w' ⟨r'.ok, r.len, fun i s e => ?_, r'.tk⟩ (s3.trans ok3 r'.ok s') q
    have hi : i < st.length := (List.getElem?_eq_some_iff.mp e).1
    obtain ⟨y, hy, q⟩ := r'.at_ i s (by rw [List.getElem?_set_ne (by omega), List.getElem?_append_left hi]; exact e)
    exact ⟨y, by rw [List.getElem?_append_left (by rw [r.len]; exact hi)] at hy; exact hy, q⟩
  · exact p.elim
end
def makeX (c : Nat) (f : Env → Res) (me mz : M (List D)) : M Sl := bindM me fun ds => bindM mz fun es => fun st => newOutX c (f (.mi c [] :: (ds ++ es).map .fz)) st
section
variable {G : Nat → Addr} {X : Cx} {W : WX} {e : Expr} {es : List Expr} {kws : List Keyword} {f : Env → Res} {c i j k : Nat} {fa : Addr} {ks : List Str} {me mz : M (List D)} {x xr : Str} {p pr sp pos : Pos}
theorem run_makeX {pins : List (Addr × Obj)} {σ : L2.St} {w : Wd} {st : Env} {s : Shared} {Q : VK} {us ws : List Value} {rv zs : List V} {ds es : List D} (tk : Takes X W) (M : Mk X.K (G c) fa) (FI : FnI X.prog X.w X.K X.mg X.base G j fa ks f) (hr : Room (k + 1) X.A) (hj : j ≤ k)
    (r : Rel X.K G w st σ) (I : Inv X pins σ w.H s) (ru : Vals rv us) (rz : Vals zs ws) (rr : RepL X.K G w.F rv ds) (rs : RepL X.K G w.F zs es) (hl : zs.length = ks.length) (h1 : rv.length ≤ sizeLine) (h2 : zs.length ≤ sizeLine)
    (p : Post X.K G (RV X.K G) w σ W (newOutX c (f (.mi c [] :: (ds ++ es).map .fz)) st) Q) : wpAny (model X.prog X.w) X.A (call (.ref (G c)) us (ks.zip ws)) (EP X pins σ Q) X.xe s := by
  have hx := I.hok.fresh (Nat.le_succ s.heap.objs.size)
  have hd := I.hok.fresh (Nat.le_refl s.heap.objs.size)
  have sp := make_spX (x := s.heap.objs.size + 1) (dx := s.heap.objs.size) r (RepL.append rr rs) hx hd (Nat.ne_of_lt (Nat.lt_succ_self _)) p
  have I2 := Inv.made (C := G c) I
  have hpass := passAt tk σ
  refine wpAny_call (make_map (f := fa) I.kIn M.makes M.init (beq_iff_eq.mp M.fn) (codeAny_mono (FI.run _ X.stack _ _ (Value.ref (s.heap.objs.size + 1) :: us) ws (.ref (s.heap.objs.size + 1)) rv zs _ (WE W σ) ((hr.make (G c) us (ks.zip ws)).mono hj)
    (I2.env0.make (G c) us (ks.zip ws)) (.cons rfl ru) rz hl h1 h2 sp) fun r s' hq' => ?_))
  cases r with
  | error e => exact hpass pins _ _ e s' I2 hq'
  | ok fl =>
    cases fl with
    | ret u =>
      obtain ⟨v, H', I3, rv, ev, q3⟩ := I2.after hq'
      subst ev
      exact ⟨rv, ⟨V.ref (s.heap.objs.size + 1), H', I3, rfl, q3⟩⟩
    | next => exact False.elim hq'
    | brk => exact False.elim hq'
    | cont => exact False.elim hq'
theorem snd_makeX (tk : Takes X W) (M : Mk X.K (G c) fa) (FI : FnI X.prog X.w X.K X.mg X.base G j fa ks f) (hr : Room (k + 1) X.A) (hj : j ≤ k) (hg : Gl X x) (hm : X.mg x = some (.ref (G c))) (ha : PA X (e :: es) (RunL X (e :: es))) (he : SndF G X W (e :: es) me) (hz : SndK G X W kws mz)
    (hes : (e :: es).length ≤ sizeLine) (hms : ks.length ≤ sizeLine) (hall : (backToKw pos (keywordEach kws X.env)).all (·.1.isSome) = true := by rfl) (hkn : (backToKw pos (keywordEach kws X.env)).filterMap (·.1) = ks := by rfl) (hkl : kws.length = ks.length := by rfl)
    (hdb : (x == ("__debug__" : Str)) = false := by decide) (hst : starEach (e :: es) X.env = (false, eval e X.env) :: starEach es X.env := by rfl)
    (hpl : ((backTo pos (starEach (e :: es) X.env)).any (·.1) || (backToKw pos (keywordEach kws X.env)).any (·.1.isNone)) = false := by rfl) : SndV G X W (.Call (.Name x p) (e :: es) kws pos) (makeX c f me mz) := by
  intro w st σ Q r pp; refine ⟨fun pins s I => ?_⟩
  refine wpAny_Call_Name_kw (ld_glob I hg hm ?_ hdb)
  have h1 : RunL X (e :: es) σ w.H fun rv H1 => rv.length = (e :: es).length → RunK X kws σ H1 fun zs H2 => zs.length = kws.length → ∀ pins s us ws, Inv X pins σ H2 s → Vals rv us → Vals zs ws → wpAny (model X.prog X.w) X.A (call (.ref (G c)) us (ks.zip ws)) (EP X pins σ Q) X.xe s := by
    refine he w st σ _ r ?_
    unfold makeX bindM at pp
    cases e1 : me st with
    | bad => rw [e1] at pp; exact pp
    | exc y st1 => rw [e1] at pp; exact pp
    | ok ds st1 =>
      rw [e1] at pp
      intro rv w1 r1 s1 q1 hrl
      refine hz w1 st1 σ _ r1 ?_
      have pp : Post X.K G (RV X.K G) w σ W ((mz st1).bind fun es => fun st => newOutX c (f (.mi c [] :: (ds ++ es).map .fz)) st) Q := pp
      cases e2 : mz st1 with
      | bad => rw [e2] at pp; exact pp
      | exc y st2 => rw [e2] at pp; exact fun c' d' w2 r2 s2 q2 => pp c' d' w2 r2 (s1.trans r1.ok r2.ok s2) q2
      | ok zd st2 =>
        rw [e2] at pp
        intro zs w2 r2 s2 q2 hzl pins s us ws I2 ru rz
        exact run_makeX tk M FI hr hj r2 I2 ru rz (q1.mono s2.f) q2 (hzl.trans hkl) (by rw [hrl]; exact hes) (by rw [hzl, hkl]; exact hms) (Post.shift r2.ok (s1.trans r1.ok r2.ok s2) older_V pp)
  have h2 := RunL.len h1
  refine PySem.W.callWith_KW (h₀ := X.base) I.ok.mod.kin M.kp hall (thn (ha.run pos pins s σ w.H _ I h2) fun us s1 ⟨rv, H1, I1, ru, q⟩ => ?_) hpl hst
  refine thn (q pos pins s1 _ I1 rfl) fun ws s2 ⟨zs, H2, I2, rz, lz, q2⟩ => ⟨I2.kIn, ?_⟩
  rw [hkn]
  exact q2 lz pins s2 us ws I2 ru rz
end
end Rz
namespace Rz
open PySem PySem.Spec PyProof.Rows L2
def gFld (K : PySem.W.Frag) (ta : TE) (f : Str) : TG := fun v σ H Q => ta σ H fun x H1 => ∃ a C dx fs, x = .ref a ∧ H1 a = some (.ins C dx fs) ∧ Cls K C ∧ NoAttr K C f ∧ fs.length < 1000 ∧ Q σ (upd H1 a (.ins C dx (putF f v fs)))
theorem pg_fld {X : Cx} {o : Expr} {f : Str} {pos : Pos} {ta : TE} (ho : PE X o ta)
    (ha : ∀ v, assign (.Attribute o f pos) X.env v = (do
      let ov ← holding [v] (eval o X.env)
      standAt pos.atName
      holding [v, ov] (setAttr ov f v)
      release [v, ov] []) := by intro _; rfl) : PG X (.Attribute o f pos) (gFld X.K ta f) := by
  refine ⟨fun pins s σ H v u Q I r h => ?_⟩
  rw [ha]
  refine wpAny_bind (wpAny_holding (thn (ho.run pins s σ H _ I h) fun ov s1 ⟨x, H1, I1, rx, a, C, dx, fs, ex, ea, c, n, l, q⟩ => ?_))
  subst ex
  obtain rfl : ov = Value.ref a := rx
  refine wpAny_bind (wpAny_standAt (wpAny_bind (wpAny_holding (setattr_ok I1 ea c n l r fun s2 I2 => ?_))))
  exact wpAny_release ⟨σ, _, I2, q⟩
def fldT (cs : List Nat) (i : Nat) (f : Str) : D → M Unit := fun d st => match (st[i]? : Option Sl) with
  | some (.mi c fs) => if cs.contains c && decide (fs.length < 1000) then .ok () (st.set i (.mi c (putFD f d fs))) else .bad
  | _ => .bad
section
variable {G : Nat → Addr} {X : Cx} {W : WX} {pr : List Nat} {cs : List Nat} {f : Str} {i : Nat} {x : Str} {np pos' : Pos}
theorem sg_fld (hF : FldOk X.K G cs f) (hN : X.N[i]? = some x := by rfl) (hv : Vis X.env.scope x := by first | exact Or.inl rfl | exact Or.inr (Or.inl rfl) | exact Or.inr (Or.inr rfl))
    (hd : (x == ("__debug__" : Str)) = false := by decide) (hcd : (x == ("__classdict__" : Str)) = false := by decide) : SndG G X W pr (.Attribute (.Name x np) f pos') (fldT cs i f) := by
  intro w0 w st σ v d Q ok0 r s q p
  refine RunG.of (pg_fld (pe_var (i := i) hN hv hd hcd)) ?_
  have p1 : PostU X.K G w0 w.F pr σ W (match (st[i]? : Option Sl) with
    | some (.mi c fs) => if cs.contains c && decide (fs.length < 1000) then Out.ok () (st.set i (.mi c (putFD f d fs))) else .bad
    | _ => .bad) Q := p
  cases e1 : (st[i]? : Option Sl) with
  | none => rw [e1] at p1; exact p1.elim
  | some s2 =>
    rw [e1] at p1
    cases s2 with
    | mi c fs =>
      obtain ⟨y, hy, a, dx, vs, rfl, k, hh, rr⟩ := r.at_ i _ e1
      have p1 : PostU X.K G w0 w.F pr σ W (if cs.contains c && decide (fs.length < 1000) then Out.ok () (st.set i (.mi c (putFD f d fs))) else .bad) Q := p1
      cases hc : (cs.contains c && decide (fs.length < 1000)) with
      | false => rw [hc] at p1; exact p1.elim
      | true =>
        rw [hc] at p1
        obtain ⟨h1, h2⟩ := Bool.and_eq_true_iff.mp hc
        obtain ⟨hcls, hna⟩ := hF c (by simpa using h1)
        refine ⟨.ref a, hy, a, G c, dx, vs, rfl, hh, hcls, hna, by rw [rr.length]; exact of_decide_eq_true h2, ?_⟩
        exact p1 (w.put a _) σ (r.putI hy k (rr.put q)) (s.trans r.ok (Wd.put_ok r.ok (by rw [k]; intro z; cases z)) (Wd.put_step r.ok k)) (Same.refl _) (Kept.refl _ _)
    | _ => exact p1.elim
end
end Rz
namespace Rz
open PySem PySem.Spec PyProof.Rows L2
def dListS : List D → Option Sl
  | [.str s] => if s.length ≤ 1000000 then some (.ml (s.map fun c => .str [c])) else none
  | ds => dList ds
section
variable {X : Cx} {G : Nat → Addr}
theorem callV_listS (hc : X.calm = true) : CallV X G (.type "list") dListS := by
  intro pins s σ H xs us Q I r ⟨w, ds, z, eH, ok, rb, eg, gv⟩
  unfold dListS at eg
  split at eg
  · rename_i t
    by_cases hl : t.length ≤ 1000000
    · rw [if_pos hl] at eg
      cases eg
      subst eH
      obtain ⟨v, rfl, r1⟩ := rep1 rb
      rw [repB_str r1] at r
      obtain ⟨u, rfl, rx⟩ := vals1 r
      obtain ⟨tk0, rfl⟩ := rx
      refine PySem.call_list_str (I.ok.hd hc) _ _ (fun h' tk acc' c' hkeep hS hacc => ?_) (show t.toArray.size ≤ sizeLine from by simp only [List.size_toArray]; exact Nat.le_trans hl (by decide))
      have hz : (t.map fun c => V.str ⟨#[c]⟩).length ≤ sizeLine := by rw [List.length_map]; exact Nat.le_trans hl (by decide)
      refine ⟨.ref s.heap.objs.size, upd w.H s.heap.objs.size (.lst (t.map fun c => V.str ⟨#[c]⟩)), I.laid hkeep (Nat.le_refl _) (show ObjOk X.prog X.w _ _ _ (.lst (t.map fun c => V.str ⟨#[c]⟩)) from ⟨hz, acc'.toList, c', ?_, ?_⟩), rfl, givV_new ok gv (I.hok.fresh (Nat.le_refl _)) (rep_signs t)⟩
      · have el : acc'.toList.length = acc'.size := by simp
        refine vals_of_at (by rw [List.length_map, el, hacc.1]; simp) fun j x w h1 h2 => ?_
        obtain ⟨c, u, hcu, rfl⟩ := hacc.2 j w (by rw [← Array.getElem?_toList]; exact h2)
        rw [List.getElem?_map] at h1
        have h3 : t[j]? = some c := by simpa using hcu
        rw [h3] at h1
        cases h1
        exact ⟨u, rfl⟩
      · rw [Array.toArray_toList]; exact hS
    · rw [if_neg hl] at eg; cases eg
  · exact callV_list hc pins s σ H xs us Q I r ⟨w, ds, z, eH, ok, rb, eg, gv⟩
end
end Rz
namespace Rz
open PySem PySem.Spec PyProof.Rows L2
def LamH (H : Hp) (P c' : Addr) (q : Str) (H1 : Hp) : Prop := H1 = H ∨ ∃ ps ps' : Array Value, H P = some (.tbl ps) ∧ H c' = none ∧ TriplesOk ps'.toList ∧
  (∀ (p : Pos) (cv : Value), codeAmong p ps'.toList = some cv → codeAmong p ps.toList = some cv ∨ cv = .ref c') ∧ H1 = upd (upd H P (.tbl ps')) c' (LamX.CodeO c' q)
section
variable {X : Cx} {pins : List (Addr × Obj)} {σ : L2.St} {H : Hp} {s : Shared}
theorem lam_make {c P : Addr} {params : Arguments} {body : Expr} {scope : Scope} {pos : Pos} {E : Value → Shared → Prop} {Q : Value → Shared → Prop} (I : Inv X pins σ H s) (TB : LamX.TabB X.base X.mg c P) (hcode : X.env.code = .ref c)
    (hT : LamX.TabS H P (X.env.qual ++ "<lambda>")) (hdef : defaultsOf params X.env = ([], [])) (hfree : ∀ y ∈ scope.names, y.2 = .free → ∃ c, X.env.cells.lookup y.1 = some c)
    (h : ∀ (f c' : Addr) (pm ctv : Value) (H1 : Hp) (s' : Shared), Inv X pins σ H1 s' → LamH H P c' (X.env.qual ++ "<lambda>") H1 →
      s'.heap.get? f = some (PySem.W.kla_obj "<lambda>" (X.env.qual ++ "<lambda>") params body scope (cloFrom X.env.cells scope.names []) pm c' ctv) → H1 f = none → f ∉ frs X.stack → H1 c' = some (LamX.CodeO c' (X.env.qual ++ "<lambda>")) → Q (.ref f) s') :
    wpAny (model X.prog X.w) X.A (eval (.Lambda params body scope pos) X.env) Q E s := by
  obtain ⟨ps, hP, tri, tells⟩ := hT
  have atP : s.heap.get? P = some { cls := .none, data := .fields ps } := I.hok P _ hP
  have bP : s.heap.BuiltinsAt X.mg P := TB.bm.keeps I.bk
  have far : ∀ f, s.heap.objs.size ≤ f → f ∉ frs X.stack := fun f hf z => by
    rcases List.mem_cons.mp (I.stkSub _ z) with e | e
    · have h1 := I.lt
      rw [← e] at h1
      exact Nat.lt_irrefl _ (Nat.lt_of_lt_of_le h1 hf)
    · exact I.nofs hf e
  refine PySem.W.kla_eval hdef ?_
  cases hc : codeAmong pos ps.toList with
  | some cv =>
    obtain ⟨c', rfl, hco⟩ := tells pos cv hc
    refine PySem.W.kla_makeFunctionHit (mg := X.mg) (c := c) (P := P) (ps := ps) (closure_ok hfree) I.ok.glob (I.mod.glob.keeps I.bk) hcode (TB.code.keeps I.bk) atP tri hc bP fun ctv h' tk hx hsz => ?_
    refine h h'.objs.size c' ((X.mg "__name__").getD .none) ctv H _ (I.kept fun b o e => ?_) (.inl rfl) (Heap.get?_push_size _ rfl) (I.hok.fresh hsz) (far _ hsz) hco
    exact Heap.get?_push_of_some _ (hx b o e)
  | none =>
    refine PySem.W.kla_makeFunction (mg := X.mg) (c := c) (P := P) (ps := ps) (closure_ok hfree) I.ok.glob (I.mod.glob.keeps I.bk) hcode (TB.code.keeps I.bk) atP tri hc TB.gP bP fun c' ctv h' tk hx hge hlt hrec htb => ?_
    obtain ⟨c2, oc, vs, t, e2, hoc, hd, hv⟩ := hrec
    cases e2
    have fresh : H c' = none := I.hok.fresh hge
    have hsz : s.heap.objs.size ≤ h'.objs.size := Nat.le_trans hge (Nat.le_of_lt hlt)
    have eL : (ps ++ #[rawInt pos.line, rawInt pos.col, .ref c']).toList = ps.toList ++ [rawInt pos.line, rawInt pos.col, .ref c'] := by simp
    have J := LamX.inv_table (t' := tk) (more := #[rawInt pos.line, rawInt pos.col, .ref c']) (q := X.env.qual ++ "<lambda>") (h' := h'.push (PySem.W.kla_obj "<lambda>" (X.env.qual ++ "<lambda>") params body scope (cloFrom X.env.cells scope.names []) ((X.mg "__name__").getD .none) c' ctv)) I hP
      (fun b o hb e => Heap.get?_push_of_some _ (hx b o hb e)) (Heap.get?_push_of_some _ htb) hge ⟨oc, vs, t, Heap.get?_push_of_some _ hoc, hd, hv⟩
    refine h h'.objs.size c' ((X.mg "__name__").getD .none) ctv _ _ J (.inr ⟨ps, ps ++ #[rawInt pos.line, rawInt pos.col, .ref c'], hP, fresh, ?_, fun p cv e => ?_, rfl⟩) (Heap.get?_push_size _ rfl) ?_ (far _ hsz) upd_same
    · rw [eL]; exact PySem.TriplesOk_snoc _ _ _ _ tri
    · rw [eL] at e; exact LamX.among_app _ tri e
    · rw [upd_ne (Nat.ne_of_gt hlt), upd_ne (Nat.ne_of_gt (Nat.lt_of_lt_of_le (Heap.lt_size atP) hsz))]
      exact I.hok.fresh hsz
end
section
variable {K : PySem.W.Frag} {w : Wd}
theorem tabS_of (ok : w.Ok) {P : Addr} {q : Str} (k : w.k P = .tab q) : LamX.TabS w.H P q := by
  obtain ⟨ps, h1, h2, h3⟩ := ok.kt P q k
  exact ⟨ps, h1, h2, fun pos cv e => let ⟨c, e1, e2⟩ := h3 pos cv e; ⟨c, e1, ok.sub _ _ e2⟩⟩
def Wd.lam (w : Wd) (P c : Addr) (ps : Array Value) (q : Str) : Wd := ⟨upd w.F c (LamX.CodeO c q), fun b => if b = c then .frz else w.k b, upd (upd w.H P (.tbl ps)) c (LamX.CodeO c q)⟩
theorem lam_ok (ok : w.Ok) {P c : Addr} {q : Str} {ps ps' : Array Value} (k : w.k P = .tab q) (hP : w.H P = some (.tbl ps)) (hc : w.H c = none) (tri : TriplesOk ps'.toList) (among : ∀ (p : Pos) (cv : Value), codeAmong p ps'.toList = some cv → codeAmong p ps.toList = some cv ∨ cv = .ref c) : (w.lam P c ps' q).Ok where
  sub := fun b x e => by
    have e9 : upd w.F c (LamX.CodeO c q) b = some x := e
    show upd (upd w.H P (.tbl ps')) c (LamX.CodeO c q) b = some x
    by_cases n : b = c
    · subst n; rw [upd_same] at e9 ⊢; exact e9
    · rw [upd_ne n] at e9 ⊢
      have m : b ≠ P := by
        rintro rfl
        have := (ok.kf b).mpr ⟨x, e9⟩
        rw [k] at this; cases this
      rw [upd_ne m]; exact ok.sub b x e9
  kf := fun b => by
    show (if b = c then Kd.frz else w.k b) = .frz ↔ ∃ o, upd w.F c (LamX.CodeO c q) b = some o
    by_cases n : b = c
    · subst n; simp [upd_same]
    · rw [if_neg n, upd_ne n]; exact ok.kf b
  ko := fun b i e => by
    have e9 : (if b = c then Kd.frz else w.k b) = .own i := e
    show ∃ o, upd (upd w.H P (.tbl ps')) c (LamX.CodeO c q) b = some o
    by_cases n : b = c
    · rw [if_pos n] at e9; cases e9
    · rw [if_neg n] at e9
      have m : b ≠ P := by rintro rfl; rw [k] at e9; cases e9
      rw [upd_ne n, upd_ne m]; exact ok.ko b i e9
  kt := fun b r e => by
    have e9 : (if b = c then Kd.frz else w.k b) = .tab r := e
    by_cases n : b = c
    · rw [if_pos n] at e9; cases e9
    · rw [if_neg n] at e9
      have fs : Same w.F (w.lam P c ps' q).F := same_upd (ok.f_none hc)
      by_cases m : b = P
      · subst m
        rw [k] at e9; cases e9
        obtain ⟨ps0, h1, h2, h3⟩ := ok.kt b q k
        rw [hP] at h1; cases h1
        refine ⟨ps', by show upd (upd w.H b (.tbl ps')) c _ b = _; rw [upd_ne n, upd_same], tri, fun p cv hcv => ?_⟩
        rcases among p cv hcv with z | z
        · obtain ⟨c0, e1, e2⟩ := h3 p cv z
          exact ⟨c0, e1, fs _ _ e2⟩
        · exact ⟨c, z, upd_same⟩
      · exact (ok.kt b r e9).keep fs (by show upd (upd w.H P (.tbl ps')) c _ b = _; rw [upd_ne n, upd_ne m])
  kd := fun b ps0 e => by
    have e9 : upd (upd w.H P (.tbl ps')) c (LamX.CodeO c q) b = some (.tbl ps0) := e
    show ∃ r, (if b = c then Kd.frz else w.k b) = .tab r
    by_cases n : b = c
    · subst n; rw [upd_same] at e9; exact absurd (Option.some.inj e9) (LamX.codeO_ne _)
    · rw [if_neg n]
      by_cases m : b = P
      · subst m; exact ⟨q, k⟩
      · rw [upd_ne n, upd_ne m] at e9; exact ok.kd b ps0 e9
  kc := fun b c0 r e => by
    have e9 : upd (upd w.H P (.tbl ps')) c (LamX.CodeO c q) b = some (LamX.CodeO c0 r) := e
    show (if b = c then Kd.frz else w.k b) = .frz
    by_cases n : b = c
    · rw [if_pos n]
    · rw [if_neg n]
      by_cases m : b = P
      · subst m; rw [upd_ne n, upd_same] at e9; exact absurd (Option.some.inj e9).symm (LamX.codeO_ne _)
      · rw [upd_ne n, upd_ne m] at e9; exact ok.kc b c0 r e9
theorem lam_step (ok : w.Ok) {P c : Addr} {q : Str} {ps' : Array Value} (k : w.k P = .tab q) (hc : w.H c = none) : Step w (w.lam P c ps' q) where
  f := same_upd (ok.f_none hc)
  o := fun b x e kb => by
    have n : b ≠ c := ne_of_none e hc
    have m : b ≠ P := by rintro rfl; rw [k] at kb; cases kb
    exact ⟨by show upd (upd w.H P (.tbl ps')) c _ b = _; rw [upd_ne n, upd_ne m]; exact e, by show (if b = c then Kd.frz else w.k b) = _; rw [if_neg n]; exact kb⟩
  d := fun b e => by
    have e9 : upd (upd w.H P (.tbl ps')) c (LamX.CodeO c q) b = none := e
    by_cases n : b = c
    · subst n; exact hc
    · rw [upd_ne n] at e9
      by_cases m : b = P
      · subst m; rw [upd_same] at e9; cases e9
      · rw [upd_ne m] at e9; exact e9
  t := fun b r => by
    show _ ↔ (if b = c then Kd.frz else w.k b) = _
    by_cases n : b = c
    · subst n; rw [if_pos rfl, ok.k_oth hc]; exact ⟨fun z => (by cases z), fun z => (by cases z)⟩
    · rw [if_neg n]
  w := fun b i e => by
    have n : b ≠ c := by rintro rfl; rw [ok.k_oth hc] at e; cases e
    exact .inl (by show (if b = c then Kd.frz else w.k b) = _; rw [if_neg n]; exact e)
end
section
variable {X : Cx}
theorem run_lam {TT : (XK → Hp → VK → Prop) → Hp → VK → Prop} {x a : Str} {g c P : Addr} {k : Nat} {pg : Arguments} {bg : List Stmt} {sg : Scope} {dV kV doc pm cdv ct oc : Value} {an od : Option Addr} {osl : Array (Option Value)} {Ng : List Str}
    {params : Arguments} {body : Expr} {scope : Scope} {t : XK → TE} {p lpos pos : Pos} {σ : L2.St} {H : Hp} {Q : VK} (hg : Gl X x) (hm : X.mg x = some (.ref g)) (hk : PySem.W.keepIn X.K (.ref g) = true)
    (lk : X.K.lookup g = some ⟨oc, od, .func (PySem.W.fnOf x x pg bg sg dV kV doc pm an cdv ct), osl⟩) (hcg : PySem.W.codeIn X.K cdv x = true) (hb : L2.Binds X.K (PySem.W.fnOf x x pg bg sg dV kV doc pm an cdv ct) [a] []) (Sg : FnScope Ng [a] sg) (hNg : Ng[0]? = some a) (hva : Vis sg a)
    (hG : LamX.GivesTo X Ng x sg g cdv bg a (X.env.qual ++ "<lambda>") TT) (TB : LamX.TabB X.base X.mg c P) (hcode : X.env.code = .ref c) (hr : Room (k + 2) X.A) (L : LamX.LamS X.env.scope scope) (hdef : defaultsOf params X.env = ([], []))
    (hbind : ∀ (q : Str) (cl : List (Str × Addr)) (pm cv ctv : Value), bindArgs (PySem.W.kla_fn "<lambda>" q params body scope cl pm cv ctv) ⟨[], []⟩ = pure [])
    (hbody : ∀ (A : Around) (outer : List PySem.Env) (s : Shared) (H : Hp) (E : XK) (f c' : Addr), Room k (A.deeper (LamX.lamEnv X scope s.heap.objs.size f c')) → PE (LamX.lamCx X A outer s H E scope f c') body (t E))
    (hT : LamX.TabS H P (X.env.qual ++ "<lambda>")) (h : ∀ c' H1, LamH H P c' (X.env.qual ++ "<lambda>") H1 → TT (fun E H' Q' => t E σ H' Q') H1 Q)
    (hdb : (x == ("__debug__" : Str)) = false := by decide) (hd : (a == ("__debug__" : Str)) = false := by decide) (hcd : (a == ("__classdict__" : Str)) = false := by decide) : RunE X (.Call (.Name x p) [.Lambda params body scope lpos] [] pos) σ H Q := by
  refine ⟨fun pins s I => ?_⟩
  refine wpAny_Call_Name_kw (ld_glob I hg hm ?_ hdb)
  refine PySem.W.callWith_K (h₀ := X.base) I.ok.mod.kin hk ?_ (by rfl) (by rfl)
  refine Calls.spliced_cons (lam_make I TB hcode hT hdef (L.has I.ok) fun f c' pm' ctv H1 s' J eH of no nof hco => ?_)
  refine Calls.spliced_nil ⟨J.kIn, ?_⟩
  refine wpAny_call (codeAny_mono (R := CR C8.CX0 X.stack X.prog X.w H1 s' Q C8.E0) (LamX.run_ofS (N := Ng) (ps := [a]) (us := [.ref f]) (vs := [.ref f]) lk hcg Sg hr J.env0 (hb s' [.ref f] J.kIn rfl) (.cons rfl .nil) rfl fun hr' => ?_) fun r s2 hq => ?_)
  · obtain ⟨u, hu, hq⟩ := hG f c' s' H1 Q (fun E H' Q' => t E σ H' Q') (fun W pn xe E p1 p2 tk hW => LamX.pe_act (i := 0) J L of no nof (hbind _ _ _ _ _) tk hW hr' (fun A outer s H hr2 => hbody A outer s H E f c' hr2) hNg hva hd hcd) hco (h c' H1 eH)
    exact ⟨u, hu.nox, hq⟩
  · cases r with
    | error e => exact (show False from hq).elim
    | ok fl =>
      cases fl with
      | ret u => exact J.after hq
      | next => exact False.elim hq
      | brk => exact False.elim hq
      | cont => exact False.elim hq
end
end Rz
namespace Rz
open PySem PySem.Spec PyProof.Rows L2
section
variable {G : Nat → Addr} {X : Cx} {pr : List Nat}
theorem hd_many {hs' : List ExceptHandler} {l' : List (List Nat × List Nat × (Ex → M Fl))} (hk : HdR G X pr hs' l') : ∃ q : List (Value × (Addr → Value → Option Addr → TS)), HdsOk X hs' q ∧
    ∀ (w0 : Wd) (W : WX) (D : Ends) (x : Ex) (st' : Env) (F : Hp) (σ1 : L2.St), w0.Ok → (∀ a i, w0.k a = .own i → i ∈ pr) → PostS X.K G w0 F pr σ1 W (hdM l' x st') D → ∀ c d w' σ', Rel X.K G w' st' σ' → Step w0 w' → Same F w'.F → Kept pr σ1 σ' → ExR X.K G w' c d x → wMany X.K W D q c d σ' w'.H := by
  induction hk with
  | nil => exact ⟨[], .nil, fun w0 W D x st' F σ1 _ _ h c d w' σ' r' s' f k q => h c d w' σ' r' s' f k q⟩
  | @cons x c y n h b₀ suite np pos' hds l' hc hy hn hs2 hr ih =>
    obtain ⟨q, hq, hw⟩ := ih
    refine ⟨(c, fun a _ _ D σ H => ∀ (oe : Obj) (pn : List (Addr × Obj)), RunB (X.suite a ((a, oe) :: pn)) (b₀ :: suite) D σ H) :: q, .cons hc (fun a oe cls d pn hz hfl => ⟨fun pins s σ H D I z => z oe pn pins s I⟩) hq, ?_⟩
    intro w0 W D e st' F σ1 ok0 own hp cls d w' σ' r' s' f k ex
    have ecls := ex.1
    have hp : PostS X.K G w0 F pr σ1 W (if y.contains e.c then calmM (h e) st' else if n.contains e.c then hdM l' e st' else .bad) D := hp
    by_cases q1 : y.contains e.c = true
    · rw [if_pos q1] at hp
      refine ⟨true, by rw [ecls]; exact hy e.c (by simpa using q1), fun _ a na oe pn => ?_, fun z => by cases z⟩
      exact hs2 a oe pn e w0 w' st' σ' D ok0 r' s' own (postS_calm (PostS.shift hp f k))
    · rw [if_neg q1] at hp
      by_cases q2 : n.contains e.c = true
      · rw [if_pos q2] at hp
        refine ⟨false, by rw [ecls]; exact hn e.c (by simpa using q2), (fun z => by cases z), fun _ => hw w0 W D e st' F σ1 ok0 own hp cls d w' σ' r' s' f k ex⟩
      · rw [if_neg q2] at hp; exact hp.elim
theorem rel_uns {K : PySem.W.Frag} {w : Wd} (ok : w.Ok) (tk : Tk K w) (σ : L2.St) : Rel K G w (List.replicate σ.length .un) σ := by
  refine ⟨ok, by simp, fun i s e => ?_, tk⟩
  rw [List.getElem?_replicate] at e
  split at e
  · rename_i h
    cases e
    exact ⟨_, List.getElem?_eq_getElem h, trivial⟩
  · cases e
end
section
variable {X : Cx} {G : Nat → Addr}
def HdC (K : PySem.W.Frag) (G : Nat → Addr) (l : List (List Nat × List Nat × (Ex → M Fl))) (Q : VK) : XK := fun cls d H1 => ∃ w1 x u, w1.H = H1 ∧ w1.Ok ∧ Tk K w1 ∧ (∀ a i, w1.k a ≠ .own i) ∧ ExR K G w1 cls d x ∧
  (∀ n, ∃ st', hdM l x (List.replicate n .un) = .ok (.rt u) st') ∧ ∀ z w2, w2.Ok → Step w1 w2 → FrR K G w1 w2 z u → Q z w2.H
def TTA (K : PySem.W.Frag) (G : Nat → Addr) (l : List (List Nat × List Nat × (Ex → M Fl))) (v : Str) : (XK → Hp → VK → Prop) → Hp → VK → Prop := fun tl H Q =>
  tl (HdC K G l Q) H (fun z H1 => [V.str v, z].length ≤ sizeLine ∧ ∀ p, H1 p = none → Q (.ref p) (upd H1 p (.tup [V.str v, z])))
theorem gives_A {Ng : List Str} {x a q v : Str} {sg : Scope} {g : Addr} {cdg : Value} {j0 : Nat} {tx : Nat} {h₀ : ExceptHandler} {hds : List ExceptHandler} {l : List (List Nat × List Nat × (Ex → M Fl))} {p1 p2 p3 pc pt p8 : Pos}
    (h0 : ∀ f : Addr, (L2.start Ng [V.ref f])[0]? = some (some (V.ref f)))
    (hh : ∀ (s : Shared) (H : Hp), HdR G (cxOf C8.CX0 X.prog X.w X.K X.mg X.base Ng x sg g cdg X.A X.stack s H C8.E0).nox [] (h₀ :: hds) l) :
    LamX.GivesTo X Ng x sg g cdg [.Try [.Return (some (.Tuple [.Constant (.str v) j0 pc, .Call (.Name a p1) [] [] p2] tx pt)) p3] (h₀ :: hds) [] [] p8] a q (TTA X.K G l v) := by
  intro f c' s H Q tl act hc h
  obtain ⟨ql, hq, hw⟩ := hd_many (hh s H)
  refine ⟨_, pss_one (ps_try_many (X := (cxOf C8.CX0 X.prog X.w X.K X.mg X.base Ng x sg g cdg X.A X.stack s H C8.E0).nox) (Wout := fun _ _ _ _ => False)
      (tb := fun W D σ H => ∃ Ech : XK, (∀ cls d σ' H', Ech cls d H' → W cls d σ' H') ∧ σ[0]? = some (some (.ref f)) ∧ H c' = some (LamX.CodeO c' q) ∧ tl Ech H (fun z H1 => [V.str v, z].length ≤ sizeLine ∧ ∀ p, H1 p = none → D.rt (.ref p) (upd H1 p (.tup [V.str v, z]))))
      rfl rfl LamX.takes0 (fun W pn xe tk _ => ?_) hq), ?_⟩
  · refine ⟨fun pins s' σ H' D I h' => ?_⟩
    obtain ⟨Ech, hW, h1, h2, h3⟩ := h'
    have hp := act W pn xe Ech p1 p2 tk hW
    exact (pss_one (ps_ret (pos := p3) (pe_tup (x1 := tx) (pos := pt) (pa_cons (pe_str (x := v) (j := j0) (pos := pc)) (pa_cons hp pa_nil))))).run pins s' σ H' D I ⟨h1, h2, h3⟩
  · refine ⟨HdC X.K G l Q, fun cls d σ' H' hx => ?_, h0 f, hc, h⟩
    obtain ⟨w1, x', u, rfl, ok, tk, own, ex, hd, hQ⟩ := hx
    obtain ⟨st', e⟩ := hd σ'.length
    refine hw w1 _ _ x' (List.replicate σ'.length .un) w1.F σ' ok (fun a i e => absurd e (own a i)) ?_ cls d w1 σ' (rel_uns ok tk σ') (Step.refl w1) (Same.refl _) (Kept.refl _ _) ex
    rw [e]
    exact fun z w2 σ2 r2 s2 _ _ q2 => hQ z w2 r2.ok s2 q2
end
end Rz
namespace Rz
open PySem PySem.Spec PyProof.Rows L2
def lamA (l : List (List Nat × List Nat × (Ex → M Fl))) (s : List Nat) (me : M D) : M Sl := fun st => match me st with
  | .ok d st' => .ok (.fz (.tup [.str s, d])) st'
  | .exc x st' => (match hdM l x [] with
    | .ok (.rt u) _ => .ok u st'
    | _ => .bad)
  | .bad => .bad
section
variable {K : PySem.W.Frag} {G : Nat → Addr} {w : Wd} {st : Env} {σ : L2.St}
theorem SlotR.lam {P c : Addr} {q : Str} {ps ps' : Array Value} (ok : w.Ok) (hP : w.H P = some (.tbl ps)) (hc : w.H c = none) {i : Nat} : ∀ {x : Option V} {s : Sl}, SlotR K G w i x s → SlotR K G (w.lam P c ps' q) i x s
  | _, .un, _ => trivial
  | _, .fz d, ⟨v, e, r⟩ => ⟨v, e, r.mono (same_upd (ok.f_none hc))⟩
  | _, .ml xs, ⟨a, vs, e, k, h, r⟩ => by
    have n : a ≠ c := ne_of_none h hc
    have m : a ≠ P := by rintro rfl; rw [h] at hP; cases hP
    exact ⟨a, vs, e, by show (if a = c then Kd.frz else w.k a) = _; rw [if_neg n]; exact k, by show upd (upd w.H P (.tbl ps')) c _ a = _; rw [upd_ne n, upd_ne m]; exact h, r.mono (same_upd (ok.f_none hc))⟩
  | _, .md xs, ⟨a, vs, e, k, h, r⟩ => by
    have n : a ≠ c := ne_of_none h hc
    have m : a ≠ P := by rintro rfl; rw [h] at hP; cases hP
    exact ⟨a, vs, e, by show (if a = c then Kd.frz else w.k a) = _; rw [if_neg n]; exact k, by show upd (upd w.H P (.tbl ps')) c _ a = _; rw [upd_ne n, upd_ne m]; exact h, r.mono (same_upd (ok.f_none hc))⟩
  | _, .mi c' xs, ⟨a, dx, vs, e, k, h, r⟩ => by
    have n : a ≠ c := ne_of_none h hc
    have m : a ≠ P := by rintro rfl; rw [h] at hP; cases hP
    exact ⟨a, dx, vs, e, by show (if a = c then Kd.frz else w.k a) = _; rw [if_neg n]; exact k, by show upd (upd w.H P (.tbl ps')) c _ a = _; rw [upd_ne n, upd_ne m]; exact h, r.mono (same_upd (ok.f_none hc))⟩
theorem lam_world (r : Rel K G w st σ) {P c' : Addr} {q : Str} {H1 : Hp} (k : w.k P = .tab q) (h : LamH w.H P c' q H1) : ∃ w1, w1.H = H1 ∧ Rel K G w1 st σ ∧ Step w w1 := by
  rcases h with rfl | ⟨ps, ps', hP, hc, tri, among, rfl⟩
  · exact ⟨w, rfl, r, Step.refl w⟩
  · have s := lam_step (ps' := ps') r.ok k hc
    exact ⟨w.lam P c' ps' q, rfl, ⟨lam_ok r.ok k hP hc tri among, r.len, fun i sl e => let ⟨x, hx, z⟩ := r.at_ i sl e; ⟨x, hx, SlotR.lam r.ok hP hc z⟩, r.tk.step s⟩, s⟩
end
section
variable {G : Nat → Addr} {X : Cx} {W : WX}
theorem snd_lamA {x a v : Str} {g c P : Addr} {k : Nat} {sg : Scope} {pg : Arguments} {dV kV doc pm cdv ct oc : Value} {an od : Option Addr} {osl : Array (Option Value)} {Ng : List Str} {j0 tx : Nat} {h₀ : ExceptHandler} {hds : List ExceptHandler} {l : List (List Nat × List Nat × (Ex → M Fl))} {p1 p2 p3 pc pt p8 : Pos}
    {params : Arguments} {body : Expr} {scope : Scope} {p lpos pos : Pos} {s : List Nat} {me : M D} (hg : Gl X x) (hm : X.mg x = some (.ref g)) (hk : PySem.W.keepIn X.K (.ref g) = true)
    (lk : X.K.lookup g = some ⟨oc, od, .func (PySem.W.fnOf x x pg [.Try [.Return (some (.Tuple [.Constant (.str v) j0 pc, .Call (.Name a p1) [] [] p2] tx pt)) p3] (h₀ :: hds) [] [] p8] sg dV kV doc pm an cdv ct), osl⟩) (hcg : PySem.W.codeIn X.K cdv x = true)
    (hb : L2.Binds X.K (PySem.W.fnOf x x pg [.Try [.Return (some (.Tuple [.Constant (.str v) j0 pc, .Call (.Name a p1) [] [] p2] tx pt)) p3] (h₀ :: hds) [] [] p8] sg dV kV doc pm an cdv ct) [a] []) (Sg : FnScope Ng [a] sg) (hNg : Ng[0]? = some a) (hva : Vis sg a)
    (h0 : ∀ f : Addr, (L2.start Ng [V.ref f])[0]? = some (some (V.ref f))) (hv : v = ⟨s.toArray⟩)
    (hh : ∀ (s : Shared) (H : Hp), HdR G (cxOf C8.CX0 X.prog X.w X.K X.mg X.base Ng x sg g cdv X.A X.stack s H C8.E0).nox [] (h₀ :: hds) l)
    (hl : ∀ e u st, hdM l e [] = .ok (.rt u) st → ∀ n, ∃ st', hdM l e (List.replicate n .un) = .ok (.rt u) st')
    (TB : LamX.TabB X.base X.mg c P) (hcode : X.env.code = .ref c) (hT : ∃ d ∈ lamDefs, lamB X.K d = true ∧ P = tabA X.K d ∧ X.env.qual ++ "<lambda>" = d ++ ".<locals>.<lambda>") (hr : Room (k + 2) X.A) (L : LamX.LamS X.env.scope scope) (hdef : defaultsOf params X.env = ([], []))
    (hbind : ∀ (q : Str) (cl : List (Str × Addr)) (pm cv ctv : Value), bindArgs (PySem.W.kla_fn "<lambda>" q params body scope cl pm cv ctv) ⟨[], []⟩ = pure [])
    (hme : ∀ (A : Around) (outer : List PySem.Env) (s : Shared) (H : Hp) (E : XK) (f c' : Addr), Room k (A.deeper (LamX.lamEnv X scope s.heap.objs.size f c')) → SndD G (LamX.lamCx X A outer s H E scope f c') (WXE E) body me)
    (hdb : (x == ("__debug__" : Str)) = false := by decide) (hd : (a == ("__debug__" : Str)) = false := by decide) (hcd : (a == ("__classdict__" : Str)) = false := by decide) :
    SndV G X W (.Call (.Name x p) [.Lambda params body scope lpos] [] pos) (lamA l s me) := by
  intro w st σ Q r pp
  subst hv
  have kP : w.k P = .tab (X.env.qual ++ "<lambda>") := (r.tk _ _).mpr hT
  refine run_lam (t := fun E σ H Q => ∀ (A : Around) (outer : List PySem.Env) (s : Shared) (H0 : Hp) (f c' : Addr), Room k (A.deeper (LamX.lamEnv X scope s.heap.objs.size f c')) → RunE (LamX.lamCx X A outer s H0 E scope f c') body σ H Q)
    hg hm hk lk hcg hb Sg hNg hva (gives_A h0 hh) TB hcode hr L hdef hbind (fun A outer s H E f c' hr2 => ⟨fun pins s2 σ2 H2 Q2 I h => h A outer s H f c' hr2 pins s2 I⟩) (tabS_of r.ok kP) (fun c' H1 hH => ?_) hdb hd hcd
  obtain ⟨w1, rfl, r1, s1⟩ := lam_world r kP hH
  intro A outer sh H0 f c2 hr2
  refine hme A outer sh H0 _ f c2 hr2 w1 st σ _ r1 ?_
  unfold lamA at pp
  cases e : me st with
  | bad => rw [e] at pp; exact pp.elim
  | ok d st' =>
    rw [e] at pp
    intro u w' r' s' ru
    refine ⟨by show 2 ≤ sizeLine; rw [sizeLine_eq]; decide, fun q hq => ?_⟩
    have g := Wd.frz_grw (o := .tup [V.str ⟨s.toArray⟩, u]) r'.ok hq
    have r2 := rel_frz (o := .tup [V.str ⟨s.toArray⟩, u]) r' hq
    exact pp (.ref q) (w'.frz q (.tup [V.str ⟨s.toArray⟩, u])) r2 ((s1.trans r1.ok r'.ok s').trans r'.ok r2.ok (g.step r'.ok)) (.tup (.inl (.inl upd_same)) (.cons (.str s) (.cons (ru.mono g.f) .nil)))
  | exc ex st' =>
    rw [e] at pp
    have pp : Post X.K G (RV X.K G) w σ W (match hdM l ex [] with | .ok (.rt u) _ => Out.ok u st' | _ => .bad) Q := pp
    intro cls dd w' r' s' xr
    cases eh : hdM l ex [] with
    | bad => rw [eh] at pp; exact pp.elim
    | exc a b => rw [eh] at pp; exact pp.elim
    | ok fl st2 =>
      rw [eh] at pp
      cases fl with
      | nx => exact pp.elim
      | bk => exact pp.elim
      | ct => exact pp.elim
      | rt u =>
        refine ⟨w'.fore [], ex, u, rfl, fore_ok r'.ok, r'.tk.of (fun a q => fore_tab), fun a i z => ?_, xr, hl ex u st2 eh, fun z w2 ok2 s2 q2 => ?_⟩
        · obtain ⟨c0, _, hr0⟩ := fore_own z
          simp [rho] at hr0
        · have rr := aft_rel (io := []) (o := []) (vs := []) r' ok2 s2 .nil rfl rfl (fun j i sl hj => by simp at hj)
          exact pp z (w'.aft w2 []) rr ((s1.trans r1.ok r'.ok s').trans r'.ok rr.ok (aft_step r'.ok ok2 s2)) (FrR.back (fun a ha => (s1.trans r1.ok r'.ok s').d a ha) (aft_fr r'.ok q2))
end
end Rz
namespace Rz
open PySem PySem.Spec PyProof.Rows L2
section
variable {X : Cx} {G : Nat → Addr}
def TTC (K : PySem.W.Frag) (G : Nat → Addr) (l : List (List Nat × List Nat × (Ex → M Fl))) (v : Str) : (XK → Hp → VK → Prop) → Hp → VK → Prop := fun tl H Q => tl (HdC K G l Q) H (fun _ H1 => Q (.str v) H1)
theorem gives_C {Ng : List Str} {x a q v : Str} {sg : Scope} {g : Addr} {cdg : Value} {j0 : Nat} {h₀ : ExceptHandler} {hds : List ExceptHandler} {l : List (List Nat × List Nat × (Ex → M Fl))} {p1 p2 p3 p8 p9 pr : Pos}
    (h0 : ∀ f : Addr, (L2.start Ng [V.ref f])[0]? = some (some (V.ref f)))
    (hh : ∀ (s : Shared) (H : Hp), HdR G (cxOf C8.CX0 X.prog X.w X.K X.mg X.base Ng x sg g cdg X.A X.stack s H C8.E0).nox [] (h₀ :: hds) l)
    (hs : ∀ (env : PySem.Env), swapsWith (.Call (.Name a p1) [] [] p2) none p3.line env = pure false) :
    LamX.GivesTo X Ng x sg g cdg [.Try [.Expr (.Call (.Name a p1) [] [] p2) p3] (h₀ :: hds) [] [] p8, .Return (some (.Constant (.str v) j0 pr)) p9] a q (TTC X.K G l v) := by
  intro f c' s H Q tl act hc h
  obtain ⟨ql, hq, hw⟩ := hd_many (hh s H)
  refine ⟨_, pss_cons (ps_try_many (X := (cxOf C8.CX0 X.prog X.w X.K X.mg X.base Ng x sg g cdg X.A X.stack s H C8.E0).nox) (Wout := fun _ _ _ _ => False)
      (tb := fun W D σ H => ∃ Ech : XK, (∀ cls d σ' H', Ech cls d H' → W cls d σ' H') ∧ σ[0]? = some (some (.ref f)) ∧ H c' = some (LamX.CodeO c' q) ∧ tl Ech H (fun z H1 => D.nx σ H1))
      rfl rfl LamX.takes0 (fun W pn xe tk _ => ?_) hq) (pss_one (ps_ret (pos := p9) (pe_str (x := v) (j := j0) (pos := pr)))), ?_⟩
  · refine ⟨fun pins s' σ H' D I h' => ?_⟩
    obtain ⟨Ech, hW, h1, h2, h3⟩ := h'
    have hp := act W pn xe Ech p1 p2 tk hW
    exact (pss_one (ps_expr (pos := p3) hp (hs _))).run pins s' σ H' D I ⟨h1, h2, h3⟩
  · refine ⟨HdC X.K G l Q, fun cls d σ' H' hx => ?_, h0 f, hc, h⟩
    obtain ⟨w1, x', u, rfl, ok, tk, own, ex, hd, hQ⟩ := hx
    obtain ⟨st', e⟩ := hd σ'.length
    refine hw w1 _ _ x' (List.replicate σ'.length .un) w1.F σ' ok (fun a i e => absurd e (own a i)) ?_ cls d w1 σ' (rel_uns ok tk σ') (Step.refl w1) (Same.refl _) (Kept.refl _ _) ex
    rw [e]
    exact fun z w2 σ2 r2 s2 _ _ q2 => hQ z w2 r2.ok s2 q2
end
def lamC (l : List (List Nat × List Nat × (Ex → M Fl))) (s : List Nat) (me : M D) : M Sl := fun st => match me st with
  | .ok _ st' => .ok (.fz (.str s)) st'
  | .exc x st' => (match hdM l x [] with
    | .ok (.rt u) _ => .ok u st'
    | _ => .bad)
  | .bad => .bad
section
variable {G : Nat → Addr} {X : Cx} {W : WX}
theorem snd_lamC {x a v : Str} {g c P : Addr} {k : Nat} {sg : Scope} {pg : Arguments} {dV kV doc pm cdv ct oc : Value} {an od : Option Addr} {osl : Array (Option Value)} {Ng : List Str} {j0 : Nat} {h₀ : ExceptHandler} {hds : List ExceptHandler} {l : List (List Nat × List Nat × (Ex → M Fl))} {p1 p2 p3 pc p8 p9 : Pos}
    {params : Arguments} {body : Expr} {scope : Scope} {p lpos pos : Pos} {s : List Nat} {me : M D} (hg : Gl X x) (hm : X.mg x = some (.ref g)) (hk : PySem.W.keepIn X.K (.ref g) = true)
    (lk : X.K.lookup g = some ⟨oc, od, .func (PySem.W.fnOf x x pg [.Try [.Expr (.Call (.Name a p1) [] [] p2) p3] (h₀ :: hds) [] [] p8, .Return (some (.Constant (.str v) j0 pc)) p9] sg dV kV doc pm an cdv ct), osl⟩) (hcg : PySem.W.codeIn X.K cdv x = true)
    (hb : L2.Binds X.K (PySem.W.fnOf x x pg [.Try [.Expr (.Call (.Name a p1) [] [] p2) p3] (h₀ :: hds) [] [] p8, .Return (some (.Constant (.str v) j0 pc)) p9] sg dV kV doc pm an cdv ct) [a] []) (Sg : FnScope Ng [a] sg) (hNg : Ng[0]? = some a) (hva : Vis sg a)
    (h0 : ∀ f : Addr, (L2.start Ng [V.ref f])[0]? = some (some (V.ref f))) (hv : v = ⟨s.toArray⟩) (hsw : ∀ (env : PySem.Env), swapsWith (.Call (.Name a p1) [] [] p2) none p3.line env = pure false)
    (hh : ∀ (s : Shared) (H : Hp), HdR G (cxOf C8.CX0 X.prog X.w X.K X.mg X.base Ng x sg g cdv X.A X.stack s H C8.E0).nox [] (h₀ :: hds) l)
    (hl : ∀ e u st, hdM l e [] = .ok (.rt u) st → ∀ n, ∃ st', hdM l e (List.replicate n .un) = .ok (.rt u) st')
    (TB : LamX.TabB X.base X.mg c P) (hcode : X.env.code = .ref c) (hT : ∃ d ∈ lamDefs, lamB X.K d = true ∧ P = tabA X.K d ∧ X.env.qual ++ "<lambda>" = d ++ ".<locals>.<lambda>") (hr : Room (k + 2) X.A) (L : LamX.LamS X.env.scope scope) (hdef : defaultsOf params X.env = ([], []))
    (hbind : ∀ (q : Str) (cl : List (Str × Addr)) (pm cv ctv : Value), bindArgs (PySem.W.kla_fn "<lambda>" q params body scope cl pm cv ctv) ⟨[], []⟩ = pure [])
    (hme : ∀ (A : Around) (outer : List PySem.Env) (s : Shared) (H : Hp) (E : XK) (f c' : Addr), Room k (A.deeper (LamX.lamEnv X scope s.heap.objs.size f c')) → SndD G (LamX.lamCx X A outer s H E scope f c') (WXE E) body me)
    (hdb : (x == ("__debug__" : Str)) = false := by decide) (hd : (a == ("__debug__" : Str)) = false := by decide) (hcd : (a == ("__classdict__" : Str)) = false := by decide) :
    SndV G X W (.Call (.Name x p) [.Lambda params body scope lpos] [] pos) (lamC l s me) := by
  intro w st σ Q r pp
  subst hv
  have kP : w.k P = .tab (X.env.qual ++ "<lambda>") := (r.tk _ _).mpr hT
  refine run_lam (t := fun E σ H Q => ∀ (A : Around) (outer : List PySem.Env) (s : Shared) (H0 : Hp) (f c' : Addr), Room k (A.deeper (LamX.lamEnv X scope s.heap.objs.size f c')) → RunE (LamX.lamCx X A outer s H0 E scope f c') body σ H Q)
    hg hm hk lk hcg hb Sg hNg hva (gives_C h0 hh hsw) TB hcode hr L hdef hbind (fun A outer s H E f c' hr2 => ⟨fun pins s2 σ2 H2 Q2 I h => h A outer s H f c' hr2 pins s2 I⟩) (tabS_of r.ok kP) (fun c' H1 hH => ?_) hdb hd hcd
  obtain ⟨w1, rfl, r1, s1⟩ := lam_world r kP hH
  intro A outer sh H0 f c2 hr2
  refine hme A outer sh H0 _ f c2 hr2 w1 st σ _ r1 ?_
  unfold lamC at pp
  cases e : me st with
  | bad => rw [e] at pp; exact pp.elim
  | ok d st' =>
    rw [e] at pp
    intro u w' r' s' ru
    exact pp (.str ⟨s.toArray⟩) w' r' (s1.trans r1.ok r'.ok s') (.str s)
  | exc ex st' =>
    rw [e] at pp
    have pp : Post X.K G (RV X.K G) w σ W (match hdM l ex [] with | .ok (.rt u) _ => Out.ok u st' | _ => .bad) Q := pp
    intro cls dd w' r' s' xr
    cases eh : hdM l ex [] with
    | bad => rw [eh] at pp; exact pp.elim
    | exc a b => rw [eh] at pp; exact pp.elim
    | ok fl st2 =>
      rw [eh] at pp
      cases fl with
      | nx => exact pp.elim
      | bk => exact pp.elim
      | ct => exact pp.elim
      | rt u =>
        refine ⟨w'.fore [], ex, u, rfl, fore_ok r'.ok, r'.tk.of (fun a q => fore_tab), fun a i z => ?_, xr, hl ex u st2 eh, fun z w2 ok2 s2 q2 => ?_⟩
        · obtain ⟨c0, _, hr0⟩ := fore_own z
          simp [rho] at hr0
        · have rr := aft_rel (io := []) (o := []) (vs := []) r' ok2 s2 .nil rfl rfl (fun j i sl hj => by simp at hj)
          exact pp z (w'.aft w2 []) rr ((s1.trans r1.ok r'.ok s').trans r'.ok rr.ok (aft_step r'.ok ok2 s2)) (FrR.back (fun a ha => (s1.trans r1.ok r'.ok s').d a ha) (aft_fr r'.ok q2))
end
end Rz
namespace Rz
open PySem PySem.Spec PyProof.Rows L2
section
variable {P : Program} {w : World} {K : PySem.W.Frag} {mg mb : Str → Option Value} {CX : CXT} {k : Nat} {fa a : Addr} {fd : FuncData} {x : Str} {sp : Sp} {sh : Shared} {vs : List Value} {cs : List (Addr × Addr)}
structure TabsAt (K : PySem.W.Frag) (cs : List (Addr × Addr)) (h : Heap) : Prop where
  t : ∀ p ∈ cs, h.get? p.2 = some { cls := .none, data := .fields #[] }
  n : ∀ p ∈ cs, K.lookup p.2 = none
  c : ∀ p ∈ cs, PySem.W.CodeHd h p.1 p.2
theorem law_coreT (KX : K.In sh.heap) (hns : sh.heap.Ns mainGlobals mg) (hb : sh.heap.Ns builtinsNs mb) (hbb : ∀ x : Str, x ≠ "__name__" → mb x = bootBuiltins x) (hlim : sh.heap.NoLimit) (hg : sh.gens = #[]) (T : TabsAt K cs sh.heap)
    (hbm : ∃ (bm : Addr) (ob : Obj), mg "__builtins__" = some (.ref bm) ∧ bm ≠ builtinsNs ∧ sh.heap.get? bm = some ob ∧ ob.cls = .type "module" ∧ ob.dict = some builtinsNs ∧ ob.data = .plain)
    (ha : sh.heap.get? a = some { cls := .type "list", data := .seq vs.toArray }) (hr : Room k callerA)
    (F : ∀ base : Heap, K.In base → base.Ns mainGlobals mg → (∀ p ∈ cs, LamX.TabB base mg p.1 p.2) → FnG P w K mg base CX k fa fd [x] sp) (hbind : ∀ (s : Shared) (u : Value), BindsTo s fd ⟨[u], []⟩ [(x, u)])
    (H : Hp) (hH : ∀ p ∈ cs, H p.2 = some (.tbl #[])) (hO : ∀ b, b ∉ cs.map (·.2) → H b = none ∨ ∃ o xs, H b = some (.frz o (.lst xs))) (hS : sp [.ref a] H (fun v _ => v = .bl true) fun _ _ _ => False) (hok : HOk P w H sh.heap) (hA : ∀ b, H b ≠ none → b = a ∨ b ∈ cs.map (·.2)) (hK : H a ≠ none → K.lookup a = none)
    (hCX : ∀ H e s', CX [] H sh (fun _ _ _ => False) e s' → False) : codeAny (model P w) callerA (.call (.ref fa) ⟨[.ref a], []⟩) (Good sh) sh := by
  have hidden : ∀ {c : Addr} {o : Obj}, sh.heap.get? c = some o → H c = none → (hidT sh.heap H).get? c = some o := fun e n => hidT_get e n
  have free : ∀ {c : Addr} {o : Obj}, sh.heap.get? c = some o → (∀ vs n, o.data ≠ .seq vs n) → o.data ≠ .fields #[] → H c = none := fun {c o} e n1 n2 => by
    cases q : H c with
    | none => rfl
    | some u =>
      rcases hA c (by rw [q]; simp) with z | z
      · rw [z, ha] at e
        cases e
        exact (n1 _ _ rfl).elim
      · obtain ⟨p, hp, ep⟩ := List.mem_map.mp z
        rw [← ep, T.t p hp] at e
        cases e
        exact (n2 rfl).elim
  have dicts : ∀ {c : Addr} {o : Obj} {es : Array DictEntry} {ep : Nat}, sh.heap.get? c = some o → o.data = .dict es ep → H c = none := fun {c o es ep} e d => free e (fun vs n z => by rw [d] at z; cases z) (fun z => by rw [d] at z; cases z)
  have spaces : ∀ {c : Addr} {m : Str → Option Value}, sh.heap.Ns c m → (hidT sh.heap H).Ns c m := fun {c m} z => by
    obtain ⟨o, es, ep, e, d, r⟩ := z
    exact ⟨o, es, ep, hidden e (dicts e d), d, r⟩
  have inB : K.In (hidT sh.heap H) := fun c o e => by
    refine hidden (KX c o e) ?_
    cases q : H c with
    | none => rfl
    | some u =>
      rcases hA c (by rw [q]; simp) with z | z
      · rw [z] at e q
        rw [hK (by rw [q]; simp)] at e
        cases e
      · obtain ⟨p, hp, ep⟩ := List.mem_map.mp z
        rw [← ep, T.n p hp] at e
        cases e
  have md : Mod K mg (hidT sh.heap H) := by
    obtain ⟨mc, h1, h2⟩ := hlim
    exact ⟨inB, spaces hns, ⟨mb, spaces hb, hbb⟩, ⟨mc, spaces h1, h2⟩⟩
  have TB : ∀ p ∈ cs, LamX.TabB (hidT sh.heap H) mg p.1 p.2 := fun p hp => by
    have tp := T.t p hp
    refine ⟨?_, ?_, fun z => ?_⟩
    · obtain ⟨o, us, file, tf, flags, tg, inF, text, tt, e1, r1, r2, r3, rest⟩ := T.c p hp
      refine ⟨o, us, file, tf, flags, tg, inF, text, tt, hidden e1 (free e1 (fun vs n z => by rw [r2] at z; cases z) (fun z => ?_)), r1, r2, r3, rest⟩
      rw [r2] at z
      cases z
      simp at r3
    · obtain ⟨bm, ob, b1, b2, b3, b4, b5, b6⟩ := hbm
      refine ⟨bm, ob, b1, b2, fun q => ?_, fun q => ?_, hidden b3 (free b3 (fun vs n z => by rw [b6] at z; cases z) (fun z => by rw [b6] at z; cases z)), b4, b5, b6⟩
      · obtain ⟨o, es, ep, e, d, _⟩ := hns
        rw [q, e] at b3
        cases b3
        rw [d] at b6
        cases b6
      · rw [q, tp] at b3
        cases b3
        cases b6
    · obtain ⟨o, es, ep, e, d, _⟩ := hns
      rw [z, tp] at e
      cases e
      cases d
  have e0 : Env0 P w K mg (hidT sh.heap H) callerA [] sh H := by
    refine ⟨rfl, md, fun c o e => of_hidT e, Nat.le_of_eq (hidT_size _ _), trivial, ?_, hok, .of_eq hg⟩
    intro c hc
    exact nomatch (show c ∈ ([] : List Addr) from hc)
  have run := (F _ inB (spaces hns) TB).run callerA [] sh H ⟨[.ref a], []⟩ [.ref a] [.ref a] (fun v _ => v = .bl true) (fun _ _ _ => False) hr rfl e0 (hbind sh (.ref a)) (.cons rfl .nil) hS
  refine codeAny_mono run fun r s' h => ?_
  cases r with
  | error e => exact (hCX H e s' h).elim
  | ok fl =>
    cases fl with
    | ret u =>
      obtain ⟨v, H', os, bare, un, hok', r', q⟩ := h
      have q : v = .bl true := q
      rw [q] at r'
      have eu : u = Value.bool true := r'
      rw [eu]
      have stays : ∀ c o, c ∉ cs.map (·.2) → sh.heap.get? c = some o → s'.heap.get? c = some o := fun c o nc e => by
        rcases hO c nc with y | ⟨ob, xs, y⟩
        · exact un.keep c o e y (fun z => nomatch (show c ∈ ([] : List Addr) from z)) (by simp)
        · obtain ⟨e1, _⟩ := hok c _ y
          obtain ⟨e2, _⟩ := hok' c _ (un.frzs c ob _ y)
          rw [e] at e1; cases e1
          exact e2
      have grown : ∀ p ∈ cs, ∃ more : Array Value, s'.heap.get? p.2 = some { cls := .none, data := .fields more } := fun p hp => by
        obtain ⟨more, z⟩ := un.tbls p.2 #[] (hH p hp)
        exact ⟨_, hok' p.2 _ z⟩
      refine ⟨rfl, ⟨fun c o e => ?_, fun c o e => ?_⟩, os, bare⟩
      · by_cases hc : c ∈ cs.map (·.2)
        · obtain ⟨p, hp, rfl⟩ := List.mem_map.mp hc
          obtain ⟨more, hm⟩ := grown p hp
          rw [T.t p hp] at e
          cases e
          exact .inr (.inl ⟨((T.c p hp).tab (T.t p hp)).isCodeTable, rfl, #[], more, rfl, by rw [Array.empty_append]; exact hm⟩)
        · exact .inl (stays c o hc e)
      · by_cases hc : c ∈ cs.map (·.2)
        · obtain ⟨p, hp, rfl⟩ := List.mem_map.mp hc
          obtain ⟨more, hm⟩ := grown p hp
          exact ⟨_, hm⟩
        · exact ⟨o, stays c o hc e⟩
    | next => exact h.elim
    | brk => exact h.elim
    | cont => exact h.elim
theorem law_callT {ns : List Int} (KX : K.In sh.heap) (hns : sh.heap.Ns mainGlobals mg) (hb : sh.heap.Ns builtinsNs mb) (hbb : ∀ x : Str, x ≠ "__name__" → mb x = bootBuiltins x) (hlim : sh.heap.NoLimit) (hg : sh.gens = #[]) (T : TabsAt K cs sh.heap)
    (hbm : ∃ (bm : Addr) (ob : Obj), mg "__builtins__" = some (.ref bm) ∧ bm ≠ builtinsNs ∧ sh.heap.get? bm = some ob ∧ ob.cls = .type "module" ∧ ob.dict = some builtinsNs ∧ ob.data = .plain)
    (ha : sh.heap.get? a = some { cls := .type "list", data := .seq vs.toArray }) (hi : IntsAre vs ns) (hl : ns.length ≤ sizeLine) (hr : Room k callerA)
    (F : ∀ base : Heap, K.In base → base.Ns mainGlobals mg → (∀ p ∈ cs, LamX.TabB base mg p.1 p.2) → FnG P w K mg base CX k fa fd [x] sp) (hbind : ∀ (s : Shared) (u : Value), BindsTo s fd ⟨[u], []⟩ [(x, u)])
    (hsp : ∀ H : Hp, (∀ b, b ∈ cs.map (·.2) → H b = some (.tbl #[])) → (∀ b ps, H b = some (.tbl ps) → b ∈ cs.map (·.2)) → SqL K H a (ns.map V.int) → sp [.ref a] H (fun v _ => v = .bl true) fun _ _ _ => False)
    (hCX : ∀ H e s', CX [] H sh (fun _ _ _ => False) e s' → False) : codeAny (model P w) callerA (.call (.ref fa) ⟨[.ref a], []⟩) (Good sh) sh := by
  have rv := vals_ints hi
  have lenV := hi.length
  have isT : ∀ b, b ∈ cs.map (·.2) → sh.heap.get? b = some { cls := .none, data := .fields #[] } := fun b hb => by
    obtain ⟨p, hp, rfl⟩ := List.mem_map.mp hb
    exact T.t p hp
  have aT : a ∉ cs.map (·.2) := fun z => by
    have q := isT a z
    rw [ha] at q
    have := congrArg Obj.data (Option.some.inj q)
    cases this
  let S : Option HO := match K.lookup a with
    | some _ => none
    | none => some (.frz { cls := .type "list", data := .seq vs.toArray } (.lst (ns.map V.int)))
  let H1 : Hp := fun b => if b ∈ cs.map (·.2) then some (.tbl #[]) else if b = a then S else none
  have at1 : ∀ b, (b ∈ cs.map (·.2) ∧ H1 b = some (.tbl #[])) ∨ (b ∉ cs.map (·.2) ∧ b = a ∧ H1 b = S) ∨ (b ∉ cs.map (·.2) ∧ b ≠ a ∧ H1 b = none) := fun b => by
    by_cases h : b ∈ cs.map (·.2)
    · exact .inl ⟨h, if_pos h⟩
    · by_cases h2 : b = a
      · exact .inr (.inl ⟨h, h2, by show (if b ∈ cs.map (·.2) then _ else _) = _; rw [if_neg h, if_pos h2]⟩)
      · exact .inr (.inr ⟨h, h2, by show (if b ∈ cs.map (·.2) then _ else _) = _; rw [if_neg h, if_neg h2]⟩)
  have hS : S = none ∨ S = some (.frz { cls := .type "list", data := .seq vs.toArray } (.lst (ns.map V.int))) := by
    cases hk : K.lookup a with
    | none =>
      refine .inr ?_
      show (match K.lookup a with | some _ => none | none => some (HO.frz { cls := .type "list", data := .seq vs.toArray } (.lst (ns.map V.int)))) = _
      rw [hk]
    | some o =>
      refine .inl ?_
      show (match K.lookup a with | some _ => none | none => some (HO.frz { cls := .type "list", data := .seq vs.toArray } (.lst (ns.map V.int)))) = _
      rw [hk]
  have sq : SqL K H1 a (ns.map V.int) := by
    have e1 : H1 a = S := by
      rcases at1 a with ⟨z, _⟩ | ⟨_, _, e⟩ | ⟨_, z, _⟩
      · exact (aT z).elim
      · exact e
      · exact (z rfl).elim
    cases hk : K.lookup a with
    | some o =>
      have e := KX a o hk
      rw [ha] at e
      cases e
      exact .inr ⟨_, vs.toArray, _, hk, rfl, rfl, rfl, by rw [List.size_toArray, lenV]; exact hl, by simpa using rv⟩
    | none =>
      refine .inl (.inr ⟨{ cls := .type "list", data := .seq vs.toArray }, ?_⟩)
      rw [e1]
      show (match K.lookup a with | some _ => none | none => some (HO.frz { cls := .type "list", data := .seq vs.toArray } (.lst (ns.map V.int)))) = _
      rw [hk]
  have tabs : ∀ b, b ∈ cs.map (·.2) → H1 b = some (.tbl #[]) := fun b hb => if_pos hb
  refine law_coreT KX hns hb hbb hlim hg T hbm ha hr F hbind H1 (fun p hp => tabs _ (List.mem_map.mpr ⟨p, hp, rfl⟩)) (fun b nb => ?_) (hsp H1 tabs (fun b ps e => ?_) sq) (fun b u z => ?_) (fun b z => ?_) (fun z => ?_) hCX
  · rcases at1 b with ⟨h, _⟩ | ⟨_, _, e⟩ | ⟨_, _, e⟩
    · exact (nb h).elim
    · rw [e]
      rcases hS with y | y <;> rw [y]
      · exact .inl rfl
      · exact .inr ⟨_, _, rfl⟩
    · exact .inl e
  · rcases at1 b with ⟨h, _⟩ | ⟨_, _, z⟩ | ⟨_, _, z⟩
    · exact h
    · rw [z] at e
      rcases hS with y | y <;> rw [y] at e <;> cases e
    · rw [z] at e; cases e
  · rcases at1 b with ⟨h, e⟩ | ⟨_, h, e⟩ | ⟨_, _, e⟩
    · rw [e] at z
      cases z
      exact isT b h
    · rw [e] at z
      rcases hS with y | y <;> rw [y] at z <;> cases z
      rw [h]
      exact ⟨ha, by rw [List.length_map]; exact hl, vs, _, rv, ha⟩
    · rw [e] at z; cases z
  · rcases at1 b with ⟨h, _⟩ | ⟨_, h, _⟩ | ⟨_, _, e⟩
    · exact .inr h
    · exact .inl h
    · exact absurd e z
  · cases hk : K.lookup a with
    | none => rfl
    | some o =>
      refine (z ?_).elim
      rcases at1 a with ⟨h, _⟩ | ⟨_, _, e⟩ | ⟨_, h, _⟩
      · exact (aT h).elim
      · rw [e]
        show (match K.lookup a with | some _ => none | none => some (HO.frz { cls := .type "list", data := .seq vs.toArray } (.lst (ns.map V.int)))) = none
        rw [hk]
      · exact (h rfl).elim
end
def TabTop (q : Program) (mg : Str → Option Value) (h : Heap) : Prop := ∀ d ∈ recsOf q, ∃ a o fd c P, mg d.name = some (.ref a) ∧ h.get? a = some o ∧ o.data = .func fd ∧ fd.code = .ref c ∧ h.IsCode c P #[] ∧ h.TableAt c P #[]
theorem walk_ofGT {l : PySem.W.OpenLaw} {n k : Nat} {q : Program} {loose : List Str} {XP : (Str → Option Value) → Heap → Prop} {YP : World → Heap → Prop} {d : DefRec} {CX : World → CXT} {x : Str}
    (hn : l.most = some n) (hn2 : n ≤ sizeLine) (hdf : d.params.defaults = []) (hr : Room k callerA)
    (F : ∀ (w : World) (mg : Str → Option Value) (fa : Addr) (h : Heap), YP w h → h.Ns mainGlobals mg → mg d.name = some (.ref fa) → TabTop q mg h →
      ∃ (K : PySem.W.Frag) (fd : FuncData) (sp : Sp) (cs : List (Addr × Addr)), K.In h ∧ TabsAt K cs h ∧ (∀ (s : Shared) (u : Value), BindsTo s fd ⟨[u], []⟩ [(x, u)]) ∧
        (∀ (H : Hp) (a : Addr) (ns : List Int), ns.length ≤ n → (∀ b, b ∈ cs.map (·.2) → H b = some (.tbl #[])) → (∀ b ps, H b = some (.tbl ps) → b ∈ cs.map (·.2)) → SqL K H a (ns.map V.int) → sp [.ref a] H (fun v _ => v = .bl true) fun _ _ _ => False) ∧
        ∀ base : Heap, K.In base → base.Ns mainGlobals mg → (∀ p ∈ cs, LamX.TabB base mg p.1 p.2) → FnG l.prog w K mg base (CX w) k fa fd [x] sp)
    (hCX : ∀ (w : World) (H : Hp) (s : Shared) (e : Value) (s' : Shared), CX w [] H s (fun _ _ _ => False) e s' → False) :
    PySem.W.WalkO q loose XP YP l.row.toRowW d [] (fun f vs => PySem.call f vs) := by
  refine Att.attach_call hn hdf fun w s0 s1 mg mb fa o pm cd doc a vs ns G Y ho hd hcd hmg hobj hints hlen hg => ?_
  obtain ⟨K, fd, sp, cs, KX, T, hb, hsp, hF⟩ := F w mg fa _ Y G.T.g hmg G.T.tab
  exact law_callT KX G.T.g G.T.b G.T.builtins G.T.nolimit hg T G.T.bmain hobj hints (Nat.le_trans hlen hn2) hr hF hb (fun H h1 h2 hS => hsp H a ns hlen h1 h2 hS) fun H e s' => hCX w H s1 e s'
end Rz
namespace Rz
open PySem PySem.Spec PyProof.Rows L2
def popD (xs : List D) : D → Option (Nat × D)
  | .int (.ofNat k) => if xs.length < 16777216 then (xs[k]?).map fun y => (k, y) else none
  | _ => none
def popM (i : Nat) (m : M D) : M D := fun st => match st[i]? with
  | some (.ml _) => (m st).bind fun d => fun st1 => match st1[i]? with
    | some (.ml xs) => (match popD xs d with
      | some (k, y) => .ok y (st1.set i (.ml (xs.eraseIdx k)))
      | none => .bad)
    | _ => .bad
  | _ => .bad
theorem seqIx_nat {k n : Nat} (h : k < n) : seqIndex? (Int.ofNat k) n = some k := by
  show seqIndex? (k : Int) n = some k
  have h1 : ¬ ((k : Int) < 0) := by omega
  have h2 : ((k : Int) < (n : Int)) := by omega
  unfold seqIndex?
  simp only [if_neg h1]
  simp [h2, h]
section
variable {G : Nat → Addr} {X : Cx} {W : WX} {e : Expr} {pos apos cpos np : Pos} {w w' w0 : Wd} {st : Env} {σ : L2.St} {i : Nat} {x : Str}
theorem snd_pop {m : M D} (h : SndD G X W e m) (hN : X.N[i]? = some x := by rfl) (hv : Vis X.env.scope x := by first | exact Or.inl rfl | exact Or.inr (Or.inl rfl) | exact Or.inr (Or.inr rfl))
    (hd : (x == ("__debug__" : Str)) = false := by decide) (hcd : (x == ("__classdict__" : Str)) = false := by decide)
    (hbase : attributeBase (.Name x np) "pop" X.env (eval (.Name x np) X.env) = eval (.Name x np) X.env := by rfl)
    (hfew : ((backTo cpos (starEach [e] X.env)).all (fun x => !x.1) && (backToKw cpos (keywordEach [] X.env)).all (fun x => x.1.isSome)
      && decide ([e].length + ([] : List Keyword).length + (if ([] : List Keyword).isEmpty then 0 else 1) < 30)) = true := by rfl)
    (hline : (apos.endLine == cpos.line) = true := by rfl) (hs : starEach [e] X.env = (false, eval e X.env) :: starEach [] X.env := by rfl) :
    SndD G X W (.Call (.Attribute (.Name x np) "pop" apos) [e] [] cpos) (popM i m) := by
  intro w st σ Q r p
  unfold popM at p
  cases e0 : st[i]? with
  | none => rw [e0] at p; exact p.elim
  | some s0 =>
    rw [e0] at p
    cases s0 with
    | ml xs0 =>
      obtain ⟨a, vs0, hσ, k0, h0, r0⟩ := own_at r e0
      refine RunE.of (pe_bm F.plainAttrs_list PySem.F.slot_list_pop PySem.F.type_list_pop mt_popAt (pe_var hN hv hd hcd) (pa_cons (pe_run (e := e)) pa_nil hs) hbase hfew hline hs rfl) ?_
      refine ⟨.ref a, hσ, .inl ⟨rfl, vs0, .inl (.inl h0)⟩, ?_⟩
      refine h w st σ _ r ?_
      have p : Post X.K G (RD X.K G) w σ W ((m st).bind fun d => fun st1 => match st1[i]? with
        | some (.ml xs) => (match popD xs d with
          | some (k, y) => Out.ok y (st1.set i (.ml (xs.eraseIdx k)))
          | none => .bad)
        | _ => .bad) Q := p
      cases em : m st with
      | bad => rw [em] at p; exact p
      | exc y st1 => rw [em] at p; exact p
      | ok d st1 =>
        rw [em] at p
        intro u w1 r1 s1 q1
        have p : Post X.K G (RD X.K G) w σ W (match st1[i]? with
          | some (.ml xs) => (match popD xs d with
            | some (k, y) => Out.ok y (st1.set i (.ml (xs.eraseIdx k)))
            | none => .bad)
          | _ => .bad) Q := p
        cases e1 : st1[i]? with
        | none => rw [e1] at p; exact p.elim
        | some s2 =>
          rw [e1] at p
          cases s2 with
          | ml xs =>
            obtain ⟨b, vs, hσ', k1, h1, r1'⟩ := own_at r1 e1
            rw [hσ] at hσ'
            cases hσ'
            have p : Post X.K G (RD X.K G) w σ W (match popD xs d with
              | some (k, y) => Out.ok y (st1.set i (.ml (xs.eraseIdx k)))
              | none => .bad) Q := p
            cases ep : popD xs d with
            | none => rw [ep] at p; exact p.elim
            | some ky =>
              obtain ⟨k0, y⟩ := ky
              rw [ep] at p
              have p9 : Post X.K G (RD X.K G) w σ W (Out.ok y (st1.set i (.ml (xs.eraseIdx k0)))) Q := p
              unfold popD at ep
              split at ep
              · rename_i k
                split at ep
                · rename_i hz
                  obtain ⟨y', ey, e2⟩ := Option.map_eq_some_iff.mp ep
                  cases e2
                  cases q1
                  obtain ⟨v, hv1, hv2⟩ := r1'.get ey
                  have hk : k0 < vs.length := (List.getElem?_eq_some_iff.mp hv1).1
                  have hl := r1'.length
                  have hkx : k0 < 16777216 := by omega
                  refine ⟨a, vs, Int.ofNat k0, k0, v, rfl, rfl, h1, ?_, ?_, seqIx_nat hk, hv1, ?_⟩
                  · show -(2 ^ 63) ≤ (k0 : Int)
                    omega
                  · show (k0 : Int) < 2 ^ 63
                    omega
                  · exact p9 v (w1.put a (.lst (vs.eraseIdx k0))) (r1.putL e1 hσ k1 (r1'.eraseIdx k0)) (s1.trans r1.ok (Wd.put_ok r1.ok (by rw [k1]; intro z; cases z)) (Wd.put_step r1.ok k1)) hv2
                · cases ep
              · cases ep
          | _ => exact p.elim
    | _ => exact p.elim
end
end Rz
namespace Rz
open PySem PySem.Spec PyProof.Rows L2 NdefX ClX
section
variable {G : Nat → Addr} {X : Cx} {W : WX} {o : Expr} {pos apos p : Pos} {io : List Nat} {k j n : Nat} {cs : List Nat} {m x : Str} {mo : M D}
theorem snd_call0 {f : Env → Res} (tk : Takes X W) (F : FnH X.prog X.w X.K X.mg X.base G j x 0 io f) (hr : Room k X.A) (hj : j ≤ k) (hg : Gl X x := by rfl)
    (hdb : (x == ("__debug__" : Str)) = false := by decide) : SndV G X W (.Call (.Name x p) [] [] pos) (callM f io nilA) := by
  obtain ⟨fa, fd, ps, hm, hk, hb, hl2, F⟩ := F.ex
  intro w st σ Q r pq; refine ⟨fun pins s I => ?_⟩
  have h1 : spM X.K G 0 io f [] w.H Q (WE W σ) := by
    have pq : Post X.K G (RV X.K G) w σ W (if agsOk st [] io = true then (match f (([] : List Ag).map (slOf st)) with
      | .ret v o => if o.length = io.length then Out.ok v (backs st [] io o) else .bad
      | .exc x o => if o.length = io.length then .exc x (backs st [] io o) else .bad
      | .bad => .bad) else .bad) Q := pq
    by_cases hok : agsOk st [] io = true
    · rw [if_pos hok] at pq
      exact sp_of (w0 := w) r .nil hok 0 rfl pq
    · rw [if_neg hok] at pq; exact pq.elim
  refine wpAny_Call_Name_kw (ld_glob I hg hm ?_ hdb)
  refine PySem.W.callWith_K0 (first := []) I.kIn hk ?_
  have hps : ps = [] := List.eq_nil_of_length_eq_zero hl2
  subst hps
  exact wpAny_call (codeAny_mono (F.run X.A X.stack s w.H ⟨[], []⟩ [] [] Q (WE W σ) (hr.mono hj) I.env0 (hb s [] I.kIn rfl) .nil h1) fun r s' hq => by
    cases r with
    | error e => exact passAt tk σ pins w.H s e s' I hq
    | ok fl =>
      cases fl with
      | ret u => exact I.after hq
      | next => exact False.elim hq
      | brk => exact False.elim hq
      | cont => exact False.elim hq)
theorem snd_meth0 {f : Nat → Env → Res} {pl : Sem Bool} (tk : Takes X W) (F : MethOk X.prog X.w X.K X.mg X.base G j cs m 1 io f) (hr : Room k X.A) (hj : j ≤ k) (ho : SndD G X W o mo)
    (ht : eval (.Call (.Attribute o m apos) [] [] pos) X.env = (do
      let ov ← eval o X.env
      standAt apos.atName
      let (f, first) ← holding [ov] (getMethod ov m pl)
      callWith pos f first (backTo pos (starEach [] X.env)) (backToKw pos (keywordEach [] X.env))) := by rfl) :
    SndV G X W (.Call (.Attribute o m apos) [] [] pos) (methM cs m f io mo nilA) := by
  intro w st σ Q r p; refine ⟨fun pins s I => ?_⟩
  have h1 : RunE X o σ w.H fun x H1 => ∃ w1 st1 c fs, w1.H = H1 ∧ Rel X.K G w1 st1 σ ∧ Rep X.K G w1.F x (.ins c fs) ∧ c ∈ cs ∧ noFld m fs = true ∧
      Post X.K G (RV X.K G) w1 σ W (callM (f c) io (preA (.d (.ins c fs)) nilA) st1) Q := by
    refine Snd.bind (run1 := RunE X o) ho older_V r p fun d u w1 st1 r1 s1 q1 p1 => ?_
    cases d with
    | ins c fs =>
      have p1 : Post X.K G (RV X.K G) w1 σ W ((if cs.contains c && noFld m fs then callM (f c) io (preA (.d (.ins c fs)) nilA) else badM : M Sl) st1) Q := p1
      cases hc : (cs.contains c && noFld m fs) with
      | true =>
        rw [hc] at p1
        obtain ⟨h1, h2⟩ := Bool.and_eq_true_iff.mp hc
        exact ⟨w1, st1, c, fs, rfl, r1, q1, by simpa using h1, h2, p1⟩
      | false => rw [hc] at p1; exact p1.elim
    | _ => exact p1.elim
  refine PySem.W.methodCall_KW (pl := pl) (thn (h1 pins s I) fun u s1 ⟨x, H1, I1, rx, w1, st1, c, fs, eH, r1, q1, hc, hnf, p1⟩ => ?_) ht
  subst eH
  obtain ⟨fa, hcls, hm, FA⟩ := F c hc
  have q1' := q1
  cases q1 with
  | @ins a dx _ fsV _ hF rF =>
    obtain rfl : u = Value.ref a := rx
    have hnone : fsV.lookup m = none := by
      rcases rF.lookup (m := m) with ⟨_, h2⟩ | ⟨_, d, h1, _, _⟩
      · exact h2
      · unfold noFld at hnf; rw [h1] at hnf; cases hnf
    refine getmeth_ok I1 (r1.ok.sub _ _ hF) hcls hm hnone ?_
    have hA : spM X.K G 1 io (f c) [.ref a] w1.H Q (WE W σ) := by
      have p1 : Post X.K G (RV X.K G) w1 σ W (if agsOk st1 [.d (.ins c fs)] io = true then (match f c (([Ag.d (.ins c fs)]).map (slOf st1)) with
        | .ret v o => if o.length = io.length then Out.ok v (backs st1 [.d (.ins c fs)] io o) else .bad
        | .exc x o => if o.length = io.length then .exc x (backs st1 [.d (.ins c fs)] io o) else .bad
        | .bad => .bad) else .bad) Q := p1
      by_cases hk : agsOk st1 [.d (.ins c fs)] io = true
      · rw [if_pos hk] at p1
        exact sp_of (w0 := w1) (vs := [.ref a]) (as := [.d (.ins c fs)]) r1 (.cons (show AgR X.K G σ w1 (.ref a) (.d (.ins c fs)) from q1') .nil) hk 1 rfl p1
      · rw [if_neg hk] at p1; exact p1.elim
    refine PySem.W.callWith_K0 (first := [.ref a]) I1.kIn hm.kp ?_
    exact wpAny_call (run_fnA (us := [.ref a]) (vs := [.ref a]) FA hr hj (passAt tk σ) I1 (.cons rfl .nil) hA)
end
section
variable {G : Nat → Addr} {X : Cx} {W : WX} {b0 : List Stmt} {pos apos p0 p1 : Pos} {f : Nat → Env → Res} {io : List Nat} {k j : Nat} {cs : List Nat} {m ar : Str} {Dd : Addr}
theorem snd_super0 {pl : Sem Bool} (tk : Takes X W) (U : SupAt X Dd ar) (F : SupOk X.prog X.w X.K X.mg X.base G j Dd cs m 1 io f) (hr : Room k X.A) (hj : j ≤ k) (hN : X.N[0]? = some ar) (hv : Vis X.env.scope ar) (har : (ar == ("__classdict__" : Str)) = false)
    (hm : (m == ("__class__" : Str)) = false := by decide)
    (ht : eval (.Call (.Attribute (.Call (.Name "super" p0) [] [] p1) m apos) [] [] pos) X.env = (do
      let ov ← attributeBase (.Call (.Name "super" p0) [] [] p1) m X.env (eval (.Call (.Name "super" p0) [] [] p1) X.env)
      standAt apos.atName
      let (f, first) ← holding [ov] (getMethod ov m pl)
      callWith pos f first (backTo pos (starEach [] X.env)) []) := by rfl) :
    SndVA G X W b0 (.Call (.Attribute (.Call (.Name "super" p0) [] [] p1) m apos) [] [] pos) (supM cs f io nilA) := by
  intro w st σ Q r p pins s I
  unfold supM at p
  cases hs : selfG st with
  | none => rw [hs] at p; exact p.elim
  | some cg =>
    obtain ⟨c, g⟩ := cg
    rw [hs] at p
    have p : Post X.K G (RV X.K G) w σ W (if cs.contains c then callM (f c) io (preA g nilA) st else .bad) Q := p
    by_cases hc : cs.contains c = true
    · rw [if_pos hc] at p
      obtain ⟨a, dx, fs, hσ, hx, hag, hg⟩ := self_at r hs
      obtain ⟨hmro, fa, hsup, FA⟩ := F c (by simpa using hc)
      obtain ⟨fd, ps, hfn, hisf, hkp, _⟩ := FA.ex
      refine PySem.ks_wpAt_MethodCall (pl := pl) (super_obj U I hm hN hv har hσ hx hmro fun so s1 I1 => ?_) ht
      refine super_meth U I1 hx hsup (beq_iff_eq.mp hisf) hm fun q s2 hb I2 => ?_
      have hA : spM X.K G 1 io (f c) [.ref a] w.H Q (WE W σ) := by
        have p : Post X.K G (RV X.K G) w σ W (if agsOk st [g] io = true then (match f c (([g] : List Ag).map (slOf st)) with
          | .ret v o => if o.length = io.length then Out.ok v (backs st [g] io o) else .bad
          | .exc x o => if o.length = io.length then .exc x (backs st [g] io o) else .bad
          | .bad => .bad) else .bad) Q := p
        by_cases hk : agsOk st [g] io = true
        · rw [if_pos hk] at p
          exact sp_of (w0 := w) (vs := [.ref a]) (as := [g]) r (.cons hag .nil) hk 1 rfl p
        · rw [if_neg hk] at p; exact p.elim
      have z : wpAny (model X.prog X.w) X.A (callWith pos (.ref q) [] (backTo pos (starEach [] X.env)) []) (EP X ((q, PySem.W.methodObj (.ref fa) (.ref a)) :: (so, PySem.W.ks_superObj Dd a (G c)) :: pins) σ Q) X.xe s2 :=
        PySem.W.callWith_M0 (first := []) ⟨pin_at I2, I2.kIn⟩ hfn (wpAny_call (PySem.W.method_call (pin_at I2) (run_fnA (us := [.ref a]) (vs := [.ref a]) FA hr hj (passAt tk σ) I2 (.cons rfl .nil) hA)))
      exact thn z fun _ _ y => unpinE (unpinE y)
    · rw [if_neg hc] at p; exact p.elim
end
end Rz
namespace Rz
open PySem PySem.Spec PyProof.Rows L2
def TBs (K : PySem.W.Frag) (mg : Str → Option Value) (base : Heap) (l : List Str) : Prop := ∀ x ∈ l, LamX.TabB base mg (codA K x) (tabA K x)
abbrev pairs (K : PySem.W.Frag) (l : List Str) : List (Addr × Addr) := l.map fun x => (codA K x, tabA K x)
theorem TBs.of {K : PySem.W.Frag} {mg : Str → Option Value} {base : Heap} {l : List Str} (h : ∀ p ∈ pairs K l, LamX.TabB base mg p.1 p.2) : TBs K mg base l := fun x hx => h (codA K x, tabA K x) (List.mem_map.mpr ⟨x, hx, rfl⟩)
theorem codA_of {K : PySem.W.Frag} {x qual : Str} {params : Arguments} {body : List Stmt} {scope : Scope} {oc dV kV doc pm cdv ct : Value} {od an : Option Addr} {osl : Array (Option Value)} (lk : K.lookup (He.ga K x) = some ⟨oc, od, .func (PySem.W.fnOf x qual params body scope dV kV doc pm an cdv ct), osl⟩)
    (hcd : PySem.W.codeIn K cdv qual = true) : cdv = .ref (codA K x) := by
  cases cdv with
  | ref c =>
    have : codA K x = c := by unfold codA; rw [lk]
    rw [this]
  | _ => cases hcd
section
variable {P : Program} {w : World} {K : PySem.W.Frag} {mg : Str → Option Value} {base : Heap} {k : Nat} {f : Addr} {fd : FuncData} {x qual : Str} {params : Arguments} {body : List Stmt} {scope : Scope} {dvs : List V} {kws : List (Str × V)} {N ps : List Str} {G : Nat → Addr} {io : List Nat} {m : M Fl}
theorem okF_ofL (F : FunD K x qual params body scope dvs kws (He.ga K x) fd) (S : FnScope N ps scope) (hio : ∀ i ∈ io, i < ps.length)
    (hbody : ∀ (A : Around) (outer : List PySem.Env) (s : Shared) (H : Hp) (E : XK), Room k (A.deeper (envOfC qual scope s.heap.objs.size (He.ga K x) (.ref (codA K x)))) → SndB G (cxOf (L2.CX P w) P w K mg base N qual scope (He.ga K x) (.ref (codA K x)) A outer s H E) (WXE E) io body m) :
    FnOk P w K mg base (L2.CX P w) (k + 1) (He.ga K x) fd ps (spM K G ps.length io (bodyF N.length io m)) := by
  obtain ⟨oc, od, dV, kV, doc, pm, an, cdv, ct, osl, rfl, lk, hcd, _, _⟩ := F.ex
  obtain rfl := codA_of lk hcd
  exact fnOk_of lk hcd S hio hbody
theorem okG_ofL (F : FunD K x qual params body scope dvs kws (He.ga K x) fd) (S : FnScope N ps scope) (hio : ∀ i ∈ io, i < ps.length)
    (hbody : ∀ (A : Around) (outer : List PySem.Env) (s : Shared) (H : Hp) (E : XK), Room k (A.deeper (envOfC qual scope s.heap.objs.size (He.ga K x) (.ref (codA K x)))) → (A.deeper (envOfC qual scope s.heap.objs.size (He.ga K x) (.ref (codA K x)))).guards = some [] →
      SndB G (cxOf (L2.CX P w) P w K mg base N qual scope (He.ga K x) (.ref (codA K x)) A outer s H E) (WXE E) io body m) :
    FnG P w K mg base (L2.CX P w) (k + 1) (He.ga K x) fd ps (spM K G ps.length io (bodyF N.length io m)) := by
  obtain ⟨oc, od, dV, kV, doc, pm, an, cdv, ct, osl, rfl, lk, hcd, _, _⟩ := F.ex
  obtain rfl := codA_of lk hcd
  exact fnG_of lk hcd S hio hbody
theorem FnH.ofL (F : FunD K x qual params body scope [] [] (He.ga K x) fd) (S : FnScope N ps scope) (hio : ∀ i ∈ io, i < ps.length) (hm : mg x = some (.ref (He.ga K x)))
    (h : ∀ (kV doc pm : Value) (an : Option Addr) (cdv ct : Value) (us : List Value), us.length = ps.length → bindArgs (PySem.W.fnOf x qual params body scope .none kV doc pm an cdv ct) ⟨us, []⟩ = pure (ps.zip us))
    (hbody : ∀ (A : Around) (outer : List PySem.Env) (s : Shared) (H : Hp) (E : XK), Room k (A.deeper (envOfC qual scope s.heap.objs.size (He.ga K x) (.ref (codA K x)))) → SndB G (cxOf (L2.CX P w) P w K mg base N qual scope (He.ga K x) (.ref (codA K x)) A outer s H E) (WXE E) io body m) :
    FnH P w K mg base G (k + 1) x ps.length io (bodyF N.length io m) :=
  ⟨⟨He.ga K x, fd, ps, hm, F.kp, F.bindsN h, rfl, okF_ofL F S hio hbody⟩⟩
theorem FnHG.ofL (F : FunD K x qual params body scope [] [] (He.ga K x) fd) (S : FnScope N ps scope) (hio : ∀ i ∈ io, i < ps.length) (hm : mg x = some (.ref (He.ga K x)))
    (h : ∀ (kV doc pm : Value) (an : Option Addr) (cdv ct : Value) (us : List Value), us.length = ps.length → bindArgs (PySem.W.fnOf x qual params body scope .none kV doc pm an cdv ct) ⟨us, []⟩ = pure (ps.zip us))
    (hbody : ∀ (A : Around) (outer : List PySem.Env) (s : Shared) (H : Hp) (E : XK), Room k (A.deeper (envOfC qual scope s.heap.objs.size (He.ga K x) (.ref (codA K x)))) → (A.deeper (envOfC qual scope s.heap.objs.size (He.ga K x) (.ref (codA K x)))).guards = some [] →
      SndB G (cxOf (L2.CX P w) P w K mg base N qual scope (He.ga K x) (.ref (codA K x)) A outer s H E) (WXE E) io body m) :
    FnHG P w K mg base G (k + 1) x ps.length io (bodyF N.length io m) :=
  ⟨⟨He.ga K x, fd, ps, hm, F.kp, F.bindsN h, rfl, okG_ofL F S hio hbody⟩⟩
end
theorem takes_lam {X : Cx} {A : Around} {outer : List PySem.Env} {s : Shared} {H : Hp} {E : XK} {scope : Scope} {f c' : Addr} : Takes (LamX.lamCx X A outer s H E scope f c') (WXE E) := takes_of rfl rfl rfl rfl
theorem hl_of {l : List (List Nat × List Nat × (Ex → M Fl))} (hq : ∀ q ∈ l, ∃ v : Ex → Option Sl, ∀ e st, q.2.2 e st = match v e with
    | some u => .ok (.rt u) st
    | none => .bad) : ∀ e u st, hdM l e [] = .ok (.rt u) st → ∀ n, ∃ st', hdM l e (List.replicate n .un) = .ok (.rt u) st' := by
  induction l with
  | nil => intro e u st h; cases h
  | cons q l ih =>
    obtain ⟨y, nn, h⟩ := q
    intro e u st hd n
    obtain ⟨v, hv⟩ := hq _ List.mem_cons_self
    have hv : ∀ e st, h e st = match v e with
      | some u => .ok (.rt u) st
      | none => .bad := hv
    have at_ : ∀ s : Env, hdM ((y, nn, h) :: l) e s = if y.contains e.c then calmM (h e) s else if nn.contains e.c then hdM l e s else .bad := fun _ => rfl
    have cm : ∀ s : Env, calmM (h e) s = match v e with
      | some u => .ok (.rt u) s
      | none => .bad := fun s => by
      unfold calmM
      rw [hv e s]
      cases v e <;> rfl
    rw [at_] at hd ⊢
    by_cases h1 : y.contains e.c = true
    · rw [if_pos h1, cm] at hd ⊢
      cases hve : v e with
      | none => rw [hve] at hd; cases hd
      | some u' =>
        rw [hve] at hd
        cases hd
        exact ⟨_, rfl⟩
    · rw [if_neg h1] at hd ⊢
      by_cases h2 : nn.contains e.c = true
      · rw [if_pos h2] at hd ⊢
        exact ih (fun q hq' => hq q (List.mem_cons_of_mem _ hq')) e u st hd n
      · rw [if_neg h2] at hd; cases hd
abbrev bodyA (v a : Str) (h₀ : ExceptHandler) (hds : List ExceptHandler) (j0 tx : Nat) (p1 p2 p3 pc pt p8 : Pos) : List Stmt := [.Try [.Return (some (.Tuple [.Constant (.str v) j0 pc, .Call (.Name a p1) [] [] p2] tx pt)) p3] (h₀ :: hds) [] [] p8]
abbrev bodyC (v a : Str) (h₀ : ExceptHandler) (hds : List ExceptHandler) (j0 : Nat) (p1 p2 p3 p8 p9 pr : Pos) : List Stmt := [.Try [.Expr (.Call (.Name a p1) [] [] p2) p3] (h₀ :: hds) [] [] p8, .Return (some (.Constant (.str v) j0 pr)) p9]
structure TakL (P : Program) (w : World) (K : PySem.W.Frag) (mg : Str → Option Value) (base : Heap) (G : Nat → Addr) (x a : Str) (bg : List Stmt) (hs : List ExceptHandler) (l : List (List Nat × List Nat × (Ex → M Fl))) : Prop where
  ex : ∃ (g : Addr) (sg : Scope) (pg : Arguments) (dV kV doc pm cdv ct oc : Value) (an od : Option Addr) (osl : Array (Option Value)) (Ng : List Str),
    mg x = some (.ref g) ∧ PySem.W.keepIn K (.ref g) = true ∧ K.lookup g = some ⟨oc, od, .func (PySem.W.fnOf x x pg bg sg dV kV doc pm an cdv ct), osl⟩ ∧ PySem.W.codeIn K cdv x = true ∧
    L2.Binds K (PySem.W.fnOf x x pg bg sg dV kV doc pm an cdv ct) [a] [] ∧ FnScope Ng [a] sg ∧ Ng[0]? = some a ∧ Vis sg a ∧ (∀ f : Addr, (L2.start Ng [V.ref f])[0]? = some (some (V.ref f))) ∧
    (∀ (A : Around) (stack : List PySem.Env) (s : Shared) (H : Hp), HdR G (cxOf C8.CX0 P w K mg base Ng x sg g cdv A stack s H C8.E0).nox [] hs l)
  hl : ∀ e u st, hdM l e [] = .ok (.rt u) st → ∀ n, ∃ st', hdM l e (List.replicate n .un) = .ok (.rt u) st'
theorem TakL.of {P : Program} {w : World} {K : PySem.W.Frag} {mg : Str → Option Value} {base : Heap} {G : Nat → Addr} {x a : Str} {pg : Arguments} {bg : List Stmt} {sg : Scope} {g : Addr} {fd : FuncData} {Ng : List Str} {hs : List ExceptHandler} {l : List (List Nat × List Nat × (Ex → M Fl))}
    (F : FunD K x x pg bg sg [] [] g fd) (S : FnScope Ng [a] sg) (hm : mg x = some (.ref g)) (hN : Ng[0]? = some a) (hv : Vis sg a) (h0 : ∀ f : Addr, (L2.start Ng [V.ref f])[0]? = some (some (V.ref f)))
    (h : ∀ (kV doc pm : Value) (an : Option Addr) (cdv ct : Value) (us : List Value), us.length = [a].length → bindArgs (PySem.W.fnOf x x pg bg sg .none kV doc pm an cdv ct) ⟨us, []⟩ = pure ([a].zip us))
    (hh : ∀ (cdv : Value) (A : Around) (stack : List PySem.Env) (s : Shared) (H : Hp), HdR G (cxOf C8.CX0 P w K mg base Ng x sg g cdv A stack s H C8.E0).nox [] hs l)
    (hq : ∀ q ∈ l, ∃ v : Ex → Option Sl, ∀ e st, q.2.2 e st = match v e with
      | some u => .ok (.rt u) st
      | none => .bad) : TakL P w K mg base G x a bg hs l := by
  have hb := F.bindsN h
  obtain ⟨oc, od, dV, kV, doc, pm, an, cdv, ct, osl, rfl, lk, hcd, _, _⟩ := F.ex
  exact ⟨⟨g, sg, pg, dV, kV, doc, pm, cdv, ct, oc, an, od, osl, Ng, hm, F.kp, lk, hcd, hb, S, hN, hv, h0, hh cdv⟩, hl_of hq⟩
section
variable {G : Nat → Addr} {X : Cx} {W : WX} {x a v : Str} {k : Nat} {j0 tx : Nat} {h₀ : ExceptHandler} {hds : List ExceptHandler} {l : List (List Nat × List Nat × (Ex → M Fl))} {p1 p2 p3 pc pt p8 p9 : Pos} {params : Arguments} {body : Expr} {scope : Scope} {p lpos pos : Pos} {s : List Nat} {me : M D} {d : Str} {L : List Str}
theorem snd_lamX (F : TakL X.prog X.w X.K X.mg X.base G x a (bodyA v a h₀ hds j0 tx p1 p2 p3 pc pt p8) (h₀ :: hds) l) (tb : TBs X.K X.mg X.base L) (hd : d ∈ L) (hdl : d ∈ lamDefs) (hB : lamB X.K d = true) (hcode : X.env.code = .ref (codA X.K d)) (hq : X.env.qual ++ "<lambda>" = d ++ ".<locals>.<lambda>")
    (hr : Room (k + 2) X.A) (S : LamX.LamS X.env.scope scope) (hme : ∀ (A : Around) (outer : List PySem.Env) (s : Shared) (H : Hp) (E : XK) (f c' : Addr), Room k (A.deeper (LamX.lamEnv X scope s.heap.objs.size f c')) → SndD G (LamX.lamCx X A outer s H E scope f c') (WXE E) body me)
    (hv : v = ⟨s.toArray⟩) (hdef : defaultsOf params X.env = ([], []) := by rfl) (hbind : ∀ (q : Str) (cl : List (Str × Addr)) (pm cv ctv : Value), bindArgs (PySem.W.kla_fn "<lambda>" q params body scope cl pm cv ctv) ⟨[], []⟩ = pure [] := by intros; rfl) (hg : Gl X x := by rfl)
    (hdb : (x == ("__debug__" : Str)) = false := by decide) (ha : (a == ("__debug__" : Str)) = false := by decide) (hcd : (a == ("__classdict__" : Str)) = false := by decide) : SndV G X W (.Call (.Name x p) [.Lambda params body scope lpos] [] pos) (lamA l s me) := by
  obtain ⟨g, sg, pg, dV, kV, doc, pm, cdv, ct, oc, an, od, osl, Ng, hm, hk, lk, hcg, hb, Sg, hNg, hva, h0, hh⟩ := F.ex
  exact snd_lamA hg hm hk lk hcg hb Sg hNg hva h0 hv (fun s H => hh X.A X.stack s H) F.hl (tb d hd) hcode ⟨d, hdl, hB, rfl, hq⟩ hr S hdef hbind hme hdb ha hcd
theorem snd_lamY (F : TakL X.prog X.w X.K X.mg X.base G x a (bodyC v a h₀ hds j0 p1 p2 p3 p8 p9 pc) (h₀ :: hds) l) (tb : TBs X.K X.mg X.base L) (hd : d ∈ L) (hdl : d ∈ lamDefs) (hB : lamB X.K d = true) (hcode : X.env.code = .ref (codA X.K d)) (hq : X.env.qual ++ "<lambda>" = d ++ ".<locals>.<lambda>")
    (hr : Room (k + 2) X.A) (S : LamX.LamS X.env.scope scope) (hme : ∀ (A : Around) (outer : List PySem.Env) (s : Shared) (H : Hp) (E : XK) (f c' : Addr), Room k (A.deeper (LamX.lamEnv X scope s.heap.objs.size f c')) → SndD G (LamX.lamCx X A outer s H E scope f c') (WXE E) body me)
    (hv : v = ⟨s.toArray⟩) (hsw : ∀ (env : PySem.Env), swapsWith (.Call (.Name a p1) [] [] p2) none p3.line env = pure false := by intros; rfl) (hdef : defaultsOf params X.env = ([], []) := by rfl)
    (hbind : ∀ (q : Str) (cl : List (Str × Addr)) (pm cv ctv : Value), bindArgs (PySem.W.kla_fn "<lambda>" q params body scope cl pm cv ctv) ⟨[], []⟩ = pure [] := by intros; rfl) (hg : Gl X x := by rfl)
    (hdb : (x == ("__debug__" : Str)) = false := by decide) (ha : (a == ("__debug__" : Str)) = false := by decide) (hcd : (a == ("__classdict__" : Str)) = false := by decide) : SndV G X W (.Call (.Name x p) [.Lambda params body scope lpos] [] pos) (lamC l s me) := by
  obtain ⟨g, sg, pg, dV, kV, doc, pm, cdv, ct, oc, an, od, osl, Ng, hm, hk, lk, hcg, hb, Sg, hNg, hva, h0, hh⟩ := F.ex
  exact snd_lamC hg hm hk lk hcg hb Sg hNg hva h0 hv hsw (fun s H => hh X.A X.stack s H) F.hl (tb d hd) hcode ⟨d, hdl, hB, rfl, hq⟩ hr S hdef hbind hme hdb ha hcd
end
theorem lamB_at {K : PySem.W.Frag} {x : Str} (h : lamB K x = true) : ∃ (oc : Value) (od : Option Addr) (vs : Array Value) (osl : Array (Option Value)), K.lookup (codA K x) = some ⟨oc, od, .fields vs, osl⟩ ∧ vs[11]? = some (.ref (tabA K x)) ∧ K.lookup (tabA K x) = none := by
  unfold lamB at h
  split at h
  · rename_i oc od vs osl e
    split at h
    · rename_i P hv
      have et : tabA K x = P := by unfold tabA; rw [e]; show (match (vs[11]? : Option Value) with | some (.ref P) => P | _ => 0) = P; rw [hv]
      rw [et]
      exact ⟨_, _, _, _, e, hv, Option.isNone_iff_eq_none.mp h⟩
    · cases h
  · cases h
theorem codB_at {K : PySem.W.Frag} {x : Str} (h : codB K x = true) : ∃ (oc : Value) (od : Option Addr) (fd : FuncData) (osl : Array (Option Value)), K.lookup (He.ga K x) = some ⟨oc, od, .func fd, osl⟩ ∧ fd.code = .ref (codA K x) := by
  unfold codB at h
  split at h
  · rename_i oc od fd osl e
    cases hc : fd.code with
    | ref c =>
      have : codA K x = c := by unfold codA; rw [e]; show (match fd.code with | .ref c => c | _ => 0) = c; rw [hc]
      rw [this]
      exact ⟨_, _, _, _, e, hc⟩
    | _ => rw [hc] at h; cases h
  · cases h
theorem tabsAt_of {q : Program} {K : PySem.W.Frag} {mg : Str → Option Value} {h : Heap} {L : List Str} (KX : K.In h) (T : TabTop q mg h) (hq : (L.all fun x => (recsOf q).any fun d => d.name == x) = true) (hm : ∀ x ∈ L, mg x = some (.ref (He.ga K x))) (hB : lamAll K L = true) : TabsAt K (pairs K L) h := by
  have key : ∀ x ∈ L, h.get? (tabA K x) = some { cls := .none, data := .fields #[] } ∧ K.lookup (tabA K x) = none ∧ PySem.W.CodeHd h (codA K x) (tabA K x) := fun x hx => by
    obtain ⟨hb1, hb2⟩ := Bool.and_eq_true_iff.mp (List.all_eq_true.mp hB x hx)
    obtain ⟨d, hd, hdn⟩ := List.any_eq_true.mp (List.all_eq_true.mp hq x hx)
    have hdn : d.name = x := by simpa using hdn
    obtain ⟨a, o, fd, c, P, e1, e2, e3, e4, e5, e6⟩ := T d hd
    rw [hdn, hm x hx] at e1
    have e1 : He.ga K x = a := by simpa using e1
    subst e1
    obtain ⟨oc, od, fd', osl, lk, hcd⟩ := codB_at hb1
    have e7 := KX _ _ lk
    rw [e2] at e7
    cases e7
    cases e3
    rw [hcd] at e4
    cases e4
    obtain ⟨oc2, od2, vs, osl2, lk2, hv, hn⟩ := lamB_at hb2
    have e8 := KX _ _ lk2
    obtain ⟨⟨o3, vs3, g1, g2, g3, g4⟩, g5⟩ := id e6
    rw [e8] at g1
    cases g1
    cases g3
    rw [hv] at g4
    cases g4
    exact ⟨g5, hn, PySem.W.CodeHd.of e5 e6⟩
  refine ⟨fun p hp => ?_, fun p hp => ?_, fun p hp => ?_⟩ <;> (obtain ⟨x, hx, rfl⟩ := List.mem_map.mp hp)
  · exact (key x hx).1
  · exact (key x hx).2.1
  · exact (key x hx).2.2
def lamN (x : Str) : Str := x ++ ".<locals>.<lambda>"
def tnL (K : PySem.W.Frag) (L : List Str) (b : Addr) : Option Str := (L.find? fun x => tabA K x == b).map lamN
theorem tnL_iff {K : PySem.W.Frag} {L : List Str} (hI : lamInj K L = true) (b : Addr) (q : Str) : tnL K L b = some q ↔ ∃ x ∈ L, tabA K x = b ∧ q = lamN x := by
  unfold tnL
  constructor
  · intro h
    obtain ⟨x, hx, e⟩ := Option.map_eq_some_iff.mp h
    exact ⟨x, List.mem_of_find?_eq_some hx, by simpa using List.find?_some hx, e.symm⟩
  · intro ⟨x, hx, e, eq⟩
    cases hfd : L.find? fun y => tabA K y == b with
    | none =>
      have := List.find?_eq_none.mp hfd x hx
      rw [e] at this
      simp at this
    | some y =>
      have hy := List.mem_of_find?_eq_some hfd
      have ey : tabA K y = b := by simpa using List.find?_some hfd
      have i1 := List.all_eq_true.mp (List.all_eq_true.mp hI y hy) x hx
      rw [ey, e] at i1
      have : y = x := by simpa using i1
      rw [this, eq]
      rfl
theorem law_spL {K : PySem.W.Frag} {G : Nat → Addr} {f : Env → Res} {H : Hp} {a : Addr} {ns : List Int} {L : List Str} (hsub : ∀ x ∈ L, x ∈ lamDefs) (hO : lamOnly K L = true) (hI : lamInj K L = true) (hT : ∀ b, b ∈ (pairs K L).map (·.2) → H b = some (.tbl #[])) (hD : ∀ b ps, H b = some (.tbl ps) → b ∈ (pairs K L).map (·.2))
    (hS : SqL K H a (ns.map V.int)) (hf : ∃ o, f [.fz (.scr ns)] = .ret (.fz (.bl true)) o) : spM K G 1 [] f [.ref a] H (fun v _ => v = .bl true) fun _ _ _ => False := by
  have mem : ∀ b, b ∈ (pairs K L).map (·.2) ↔ ∃ x ∈ L, tabA K x = b := fun b => by
    rw [List.map_map]
    exact List.mem_map
  refine law_spT (tn := tnL K L) (fun b q h => ?_) (fun b ps h => ?_) (fun b q => ?_) hS hf
  · obtain ⟨x, hx, e, _⟩ := (tnL_iff hI b q).mp h
    exact hT b ((mem b).mpr ⟨x, hx, e⟩)
  · obtain ⟨x, hx, e⟩ := (mem b).mp (hD b ps h)
    exact ⟨_, (tnL_iff hI b _).mpr ⟨x, hx, e, rfl⟩⟩
  · constructor
    · intro h
      obtain ⟨x, hx, e, eq⟩ := (tnL_iff hI b q).mp h
      have := List.all_eq_true.mp hO x (hsub x hx)
      have hc : L.contains x = true := by simpa using hx
      rw [hc] at this
      exact ⟨x, hsub x hx, by simpa using this, e.symm, eq⟩
    · intro ⟨x, hx, hb, e, eq⟩
      have := List.all_eq_true.mp hO x hx
      rw [hb] at this
      exact (tnL_iff hI b q).mpr ⟨x, by simpa using this, e.symm, eq⟩
end Rz
namespace Rz
open PySem PySem.Spec PyProof.Rows L2
theorem eqoB_ok {K : PySem.W.Frag} {x : String} (h : eqoB K x = true) : PySem.W.findIn K (.ref (He.ga K x)) "__eq__" = some (some (.builtin "object.__eq__")) ∧ PySem.W.mroIn K (He.ga K x) (.type "object") = some true := by
  unfold eqoB at h
  rw [Bool.and_eq_true] at h
  exact ⟨of_decide_eq_true h.1, of_decide_eq_true h.2⟩
def dEqE (a b : D) : Option D := match a, b with
  | .lst (_ :: _), .lst [] => some (.bl false)
  | a, b => dEq a b
section
variable {G : Nat → Addr} {X : Cx}
theorem opS_eqE (hu : X.A.units + 64 < cLine) : OpS X G (compareOp .Eq) dEqE := by
  intro pins s σ H x y v u Q I rx ry h
  have h0 := h
  obtain ⟨w, a, b, z, eH, ok, ra, rb, eg, gv⟩ := h
  subst eH
  unfold dEqE at eg
  split at eg
  · rename_i x0 xs
    obtain rfl := Option.some.inj eg
    obtain ⟨p, vs, rfl, hd, rk⟩ := repB_lst ok ra
    obtain ⟨p', vs', rfl, hd', rk'⟩ := repB_lst ok rb
    have e' : vs' = [] := by cases rk'; rfl
    subst e'
    obtain rfl : v = Value.ref p := rx
    obtain rfl : u = Value.ref p' := ry
    obtain ⟨its, rv, hl, _⟩ := I.list (a := p) (xs := vs) (.inl (.inl hd))
    obtain ⟨its', rv', hl', _⟩ := I.list (a := p') (xs := []) (.inl (.inl hd'))
    have h1 : its.length = xs.length + 1 := by rw [← rv.length, rk.length, List.length_cons]
    have h2 : its' = [] := by cases rv'; rfl
    subst h2
    refine PySem.SeqAt.eq_list_lengthsAt hl.isList hl'.isList (by simp [h1]) (by omega) ?_
    exact fin_bl I (giv_here ok gv (.bl _)) rfl
  · exact opS_eq hu pins s σ _ x y v u Q I rx ry ⟨w, _, _, z, rfl, ok, ra, rb, eg, gv⟩
end
@[simp] theorem dEqE_cons (x : D) (xs : List D) : dEqE (.lst (x :: xs)) (.lst []) = some (.bl false) := rfl
@[simp] theorem dEqE_nil : dEqE (.lst []) (.lst []) = some (.bl true) := rfl
section
variable {prog : Program} {w : World} {A : Around} {s : Shared} {K : PySem.W.Frag} {x C : Addr} {ox : Obj} {od : Option Obj}
theorem call_objSame {Q : Value → Shared → Prop} {E : Value → Shared → Prop} (X : K.In s.heap) (I : PySem.W.InstAt s.heap x ox C od) (hm : PySem.W.mroIn K C (.type "object") = some true) (hq : Q (.bool true) s) :
    wpAny (model prog w) A (call (.builtin "object.__eq__") [.ref x, .ref x]) Q E s :=
  wpAny_call (codeAny_call_builtin F.cmp_object.eq.plain F.cmpEntry_eq (PySem.W.check_slot F.cmpKind_eq F.cmpSplit_eq (I.type.andThen (PySem.W.looks_mroIn X hm)) (F.cmpArgs_eq _ _) (objEq_entry_same hq)))
theorem rc_same (hu : A.units < cLine) (X : K.In s.heap) (I : PySem.W.InstAt s.heap x ox C od) (hm : PySem.W.mroIn K C (.type "object") = some true) (hs : PySem.W.findIn K (.ref C) "__eq__" = some (some (.builtin "object.__eq__"))) {Q : Value → Shared → Prop} {E : Value → Shared → Prop} (h : Q (.bool true) s) :
    wpAny (model prog w) A (richCompare .Eq (.ref x) (.ref x)) Q E s := by
  have one : wpAny (model prog w) A (tryCompare (.ref x) "__eq__" (.ref x)) (fun r s' => r = some (.bool true) ∧ s' = s) E s := by
    unfold tryCompare
    exact wpAny_bind (HN.ifBound_objEq X I hs (call_objSame X I hm (wpAny_pure ⟨rfl, rfl⟩)))
  simp only [richCompare, cmpInfo_Eq, oneThing_ref]
  refine wpAny_holding (wpAny_bind (wpAny_cRoomFor hu ?_))
  refine wpAny_bind (I.type.here ?_)
  refine wpAny_bind (I.type.here ?_)
  split
  · rename_i q
    exact absurd q (by simp)
  · simp only [pure_bind, Bool.false_eq_true, if_false]
    refine wpAny_bind (m := tryCompare (.ref x) _ (.ref x)) (wpAny_mono one (fun r s1 z => ?_) fun _ _ e => e)
    obtain ⟨z1, z2⟩ := z
    subst z1
    subst z2
    exact wpAny_pure h
end
section
variable {G : Nat → Addr} {X : Cx} {W : WX} {x : Str} {p p' pos : Pos} {i : Nat} {cs : List Nat}
def rSelf (K : PySem.W.Frag) : V → V → Hp → VK → Prop := fun x y H Q => ∃ a C dx fs, x = .ref a ∧ y = .ref a ∧ H a = some (.ins C dx fs) ∧ PySem.W.mroIn K C (.type "object") = some true ∧ PySem.W.findIn K (.ref C) "__eq__" = some (some (.builtin "object.__eq__")) ∧ Q (.bl true) H
theorem op_self (hu : X.A.units + 64 < cLine) : OpR X (compareOp .Eq) (rSelf X.K) := by
  intro pins s σ H x y v u Q I rx ry ⟨a, C, dx, fs, e1, e2, ha, hm, hs, hq⟩
  subst e1
  subst e2
  obtain rfl : v = Value.ref a := rx
  obtain rfl : u = Value.ref a := ry
  obtain ⟨mA, O, _⟩ := ins_get I.hok ha
  obtain ⟨od, J, _⟩ := O.look
  exact rc_same (by omega) I.kIn J hm hs (fin_bl I hq rfl)
def selfM (cs : List Nat) (i : Nat) : M D := fun st => match st[i]? with
  | some (.fz (.ins c _)) => if cs.contains c = true then .ok (.bl true) st else .bad
  | _ => .bad
theorem snd_self (hu : X.A.units + 64 < cLine) (hc : ∀ c ∈ cs, PySem.W.findIn X.K (.ref (G c)) "__eq__" = some (some (.builtin "object.__eq__")) ∧ PySem.W.mroIn X.K (G c) (.type "object") = some true) (hm : behindInMarks .Eq (.Name x p') = false) (hN : X.N[i]? = some x := by rfl) (hv : Vis X.env.scope x := by first | exact Or.inl rfl | exact Or.inr (Or.inl rfl) | exact Or.inr (Or.inr rfl))
    (hd : (x == ("__debug__" : Str)) = false := by decide) (hcd : (x == ("__classdict__" : Str)) = false := by decide) : SndD G X W (.Compare (.Name x p) [.Eq] [.Name x p'] pos) (selfM cs i) := by
  intro w st σ Q r pp
  refine RunE.of (pe_cmpR (op_self hu) pe_run pe_run hm) ?_
  unfold selfM at pp
  split at pp
  · rename_i c fs e
    split at pp
    · rename_i hcc
      obtain ⟨v, ev, b⟩ := see_rel r e (by intro z; cases z)
      obtain ⟨h1, h2⟩ := hc c (by simpa using hcc)
      have fin : ∀ {H : Hp} {R : VK}, R v H → RunE X (.Name x p) σ H R ∧ RunE X (.Name x p') σ H R := fun hq => ⟨RunE.of (pe_var hN hv hd hcd) ⟨v, ev, hq⟩, RunE.of (pe_var hN hv hd hcd) ⟨v, ev, hq⟩⟩
      refine (fin ?_).1
      refine (fin ?_).2
      have key : ∃ a dx vs, v = .ref a ∧ w.H a = some (.ins (G c) dx vs) := by
        cases b with
        | fz r0 => cases r0 with
          | ins q _ => exact ⟨_, _, _, rfl, r.ok.sub _ _ q⟩
        | mi h _ => exact ⟨_, _, _, rfl, h⟩
      obtain ⟨a, dx, vs, rfl, ha⟩ := key
      exact ⟨a, G c, dx, vs, rfl, rfl, ha, h2, h1, pp (.bl true) w r (Step.refl w) (.bl true)⟩
    · exact pp.elim
  · exact pp.elim
end
end Rz
namespace Rz
open PySem PySem.Spec PyProof.Rows L2
def isO (g1 g2 : D → Option Bool) (d : D) : Option Bool := match g1 d, g2 d with
  | some a, some b => some (a || b)
  | _, _ => none
theorem isO_ok {K : PySem.W.Frag} {G : Nat → Addr} {u1 u2 : Value} {g1 g2 : D → Option Bool} (h1 : IsiOk K G u1 g1) (h2 : IsiOk K G u2 g2) {d : D} {b : Bool} (e : isO g1 g2 d = some b) :
    (∀ c fs, d = .ins c fs → InsTy K (G c)) ∧ PySem.W.kitAny K (tyVal G d) [u1, u2] = some b := by
  unfold isO at e
  cases e1 : g1 d with
  | none => rw [e1] at e; cases e
  | some a =>
    cases e2 : g2 d with
    | none => rw [e1, e2] at e; cases e
    | some c =>
      rw [e1, e2] at e
      cases e
      obtain ⟨i1, k1⟩ := h1 d a e1
      obtain ⟨_, k2⟩ := h2 d c e2
      refine ⟨i1, ?_⟩
      simp only [PySem.W.kitAny, k1, k2]
      cases a <;> cases c <;> rfl
theorem repB_frz {K : PySem.W.Frag} {G : Nat → Addr} {w : Wd} {q : Addr} {us : List V} {v : V} {d : D} (ok : w.Ok) (hq : w.H q = none) (b : RepB K G w v d) : RepB K G (w.frz q (.tup us)) v d := by
  have g := Wd.frz_grw (o := .tup us) ok hq
  cases b with
  | fz r => exact .fz (r.mono g.f)
  | ml h r => exact .ml (g.h _ _ h) (r.mono g.f)
  | md h r => exact .md (g.h _ _ h) (r.mono g.f)
  | mi h r => exact .mi (g.h _ _ h) (r.mono g.f)
section
variable {G : Nat → Addr} {X : Cx} {W : WX} {e c1 c2 : Expr} {p pos tpos : Pos} {g1 g2 : D → Option Bool} {u1 u2 : Value} {v1 v2 : V} {ml : M (List D)} {x1 : Nat}
theorem snd_isT (h1 : IsiOk X.K G u1 g1) (h2 : IsiOk X.K G u2 g2) (hv1 : ClsV v1 u1) (hv2 : ClsV v2 u2) (hc1 : PE X c1 (tC v1)) (hc2 : PE X c2 (tC v2)) (hm : X.mg "isinstance" = none) (hl : SndL G X W [e] ml) (ha : PA X [e, .Tuple [c1, c2] x1 tpos] (RunL X [e, .Tuple [c1, c2] x1 tpos])) (hg : Gl X "isinstance" := by rfl)
    (he : starEach [e, .Tuple [c1, c2] x1 tpos] X.env = (false, eval e X.env) :: starEach [.Tuple [c1, c2] x1 tpos] X.env := by rfl) (hpl : (backTo pos (starEach [.Tuple [c1, c2] x1 tpos] X.env)).any (·.1) = false := by rfl)
    (hs1 : starEach [c1, c2] X.env = (false, eval c1 X.env) :: starEach [c2] X.env := by rfl) (hs2 : starEach [c2] X.env = (false, eval c2 X.env) :: starEach [] X.env := by rfl) :
    SndD G X W (.Call (.Name "isinstance" p) [e, .Tuple [c1, c2] x1 tpos] [] pos) (op1M (dIsi (isO g1 g2)) ml) := by
  intro w st σ Q r pq
  refine RunE.of (pe_callB call_isiT hg hm (by rfl) ha (by decide) (by decide) he hpl) ?_
  show RunE X e σ w.H fun x H1 => RunE X (.Tuple [c1, c2] x1 tpos) σ H1 fun y H2 => rIsiT X.K [x, y] H2 Q
  have h := Snd.bind (run1 := RunL X [e]) (Q1 := fun vs H => match vs with | [x] => (∀ q, H q = none → rIsiT X.K [x, .ref q] (upd H q (.tup [v1, v2])) Q) | _ => False) hl older_D r pq fun ds us w1 st1 r1 s1 q1 p1 => ?_
  · have h : RunE X e σ w.H fun x H1 => ∀ q, H1 q = none → rIsiT X.K [x, .ref q] (upd H1 q (.tup [v1, v2])) Q := h
    refine RunE.mk fun pins s I => thn (h pins s I) fun u s1 ⟨x, H1, I1, rx, q⟩ => ⟨x, H1, I1, rx, ?_⟩
    refine RunE.of (pe_tup (pa_cons hc1 (pa_cons hc2 pa_nil hs2) hs1)) ?_
    exact ⟨by rw [sizeLine_eq]; simp, q⟩
  · cases q1 with
    | nil => exact p1.elim
    | @cons x xs d ds b1 q1 =>
      cases q1 with
      | nil =>
        have p2 : Post X.K G (RD X.K G) w1 σ W ((liftM (dIsi (isO g1 g2) d) : M D) st1) Q := p1
        cases eg : isO g1 g2 d with
        | none => unfold dIsi at p2; rw [eg] at p2; exact p2.elim
        | some b =>
          unfold dIsi at p2
          rw [eg] at p2
          obtain ⟨i1, i2⟩ := isO_ok h1 h2 eg
          intro q hq
          have rf := rel_frz (o := .tup [v1, v2]) r1 hq
          have gw := Wd.frz_grw (o := .tup [v1, v2]) r1.ok hq
          have b2 : RepB X.K G (w1.frz q (.tup [v1, v2])) x d := repB_frz r1.ok hq b1
          exact ⟨x, q, [v1, v2], tyVal G d, [u1, u2], b, rfl, upd_same, .cons hv1 (.cons hv2 .nil), repB_ty rf.ok b2 i1, i2, p2 (.bl b) _ rf (gw.step r1.ok) (.bl b)⟩
      | cons _ _ => exact p1.elim
end
end Rz
namespace Rz
open PySem PySem.Spec PyProof.Rows L2
section
variable {G : Nat → Addr} {X : Cx} {W : WX} {f : Env → Res} {c j k : Nat} {fa : Addr} {x : Str} {p pos : Pos}
theorem snd_make0 (tk : Takes X W) (M : Mk X.K (G c) fa) (FI : FnI X.prog X.w X.K X.mg X.base G j fa [] f) (hr : Room (k + 1) X.A) (hj : j ≤ k) (hg : Gl X x) (hm : X.mg x = some (.ref (G c)))
    (hdb : (x == ("__debug__" : Str)) = false := by decide) : SndV G X W (.Call (.Name x p) [] [] pos) (makeX c f nilL nilL) := by
  intro w st σ Q r pp; refine ⟨fun pins s I => ?_⟩
  refine wpAny_Call_Name_kw (ld_glob I hg hm ?_ hdb)
  refine PySem.W.callWith_K0 (first := []) I.kIn M.kp ?_
  exact run_makeX (ks := []) (rv := []) (zs := []) (us := []) (ws := []) (ds := []) (es := []) tk M FI hr hj r I .nil .nil .nil .nil rfl (Nat.zero_le _) (Nat.zero_le _) pp
end
end Rz
namespace Rz
open PySem PySem.Spec PyProof.Rows L2
def csAll : List Nat := [0, 1, 2, 3]
def m__law_is_equal : M Fl :=
 (retD (op2M dEq (consL (fnM dReprN (consN 0 nilL)) (consL (fnM dReprN (consN 1 nilL)) nilL))))
def F__law_is_equal : Env → Res := bodyF 2 [] m__law_is_equal
def m_Rule_total : M Fl :=
 (retD (fnM dSum (consL (op1M (dFld csAll "lengths") (consN 0 nilL)) nilL)))
def F_Rule_total : Env → Res := bodyF 1 [] m_Rule_total
def fp_total : Nat → Env → Res
  | 0 => F_Rule_total
  | 1 => F_Rule_total
  | 2 => F_Rule_total
  | 3 => F_Rule_total
  | _ => fun _ => .bad
def m_Rule_rods : M Fl :=
 (retM (fnV dListS (consL (op1M (dFld csAll "lengths") (consN 0 nilL)) nilL)))
def F_Rule_rods : Env → Res := bodyF 1 [] m_Rule_rods
def fp_rods : Nat → Env → Res
  | 0 => F_Rule_rods
  | 1 => F_Rule_rods
  | 2 => F_Rule_rods
  | 3 => F_Rule_rods
  | _ => fun _ => .bad
def m_Rule_options : M Fl :=
 (retM (pureM (.md [])))
def F_Rule_options : Env → Res := bodyF 1 [] m_Rule_options
def fs_Aimed_options : Nat → Env → Res
  | 2 => F_Rule_options
  | 3 => F_Rule_options
  | _ => fun _ => .bad
def m_Aimed_options : M Fl :=
 (seqM (putM 2 (supM [2, 3] fs_Aimed_options [] nilA))
 (seqM (bindM (tupM (consL (op1M (dFld csAll "right") (consN 0 nilL)) (consL (op1M (dFld csAll "left") (consN 0 nilL)) nilL))) fun d => bindM ((tgT 2 (tgCons (subM 2 (pureM (.str [114, 105, 103, 104, 116]))) (tgCons (subM 2 (pureM (.str [108, 101, 102, 116]))) tgNil))) d) fun _ => nxM)
 (retO 2)))
def F_Aimed_options : Env → Res := bodyF 3 [] m_Aimed_options
def fs_Held_options : Nat → Env → Res
  | 1 => F_Rule_options
  | 3 => F_Aimed_options
  | _ => fun _ => .bad
def m_Held_options : M Fl :=
 (seqM (putM 2 (supM [1, 3] fs_Held_options [] nilA))
 (seqM (bindM (tupM (consL (op1M (dFld csAll "straight") (consN 0 nilL)) (consL (op1M (dFld csAll "folded") (consN 0 nilL)) nilL))) fun d => bindM ((tgT 2 (tgCons (subM 2 (pureM (.str [115, 116, 114, 97, 105, 103, 104, 116]))) (tgCons (subM 2 (pureM (.str [102, 111, 108, 100, 101, 100]))) tgNil))) d) fun _ => nxM)
 (retO 2)))
def F_Held_options : Env → Res := bodyF 3 [] m_Held_options
def fm_options : Nat → Env → Res
  | 0 => F_Rule_options
  | 1 => F_Held_options
  | 2 => F_Aimed_options
  | 3 => F_Held_options
  | _ => fun _ => .bad
def m__law_is_length : M Fl :=
 (retD (andV (op1M (dIsi (isB "int" [0])) (consN 0 nilL)) (andV (notV (op1M (dIsi (isB "bool" [0])) (consN 0 nilL))) (chainM dLt dLt (consL (pureM (.int 0)) (consL (nameM 0) nilL)) (pureM (.int 41))))))
def F__law_is_length : Env → Res := bodyF 1 [] m__law_is_length
def l__law_outcome : List (List Nat × List Nat × (Ex → M Fl)) := [([11], [9, 12], fun _ => (retD (tupM (consL (pureM (.str [82, 111, 100, 115, 69, 114, 114, 111, 114])) nilL))))]
def m_is_integer : M Fl :=
 (retD (andV (op1M (dIsi (isB "int" [0])) (consN 0 nilL)) (notV (op1M (dIsi (isB "bool" [0])) (consN 0 nilL)))))
def F_is_integer : Env → Res := bodyF 1 [] m_is_integer
def m_Rule_is_rod : M Fl :=
 (retD (andV (frzM (callM F_is_integer [] (consA (nameM 0) nilA))) (chainM dLe dLe (consL (pureM (.int 1)) (consL (nameM 0) nilL)) (pureM (.int 40)))))
def F_Rule_is_rod : Env → Res := bodyF 1 [] m_Rule_is_rod
def b_Rule___init___Rule_o_1 : M Fl :=
 (iteM (notM (truM (frzM (callM F_Rule_is_rod [] (consA (nameM 2) nilA))))) (excM ⟨11, []⟩) nxM)
def m_Rule___init___Rule_o : M Fl :=
 (seqM (iteM (notM (tstM (chainM dLe dLe (consL (pureM (.int 1)) (consL (fnM dLen (consN 1 nilL)) nilL)) (pureM (.int 12))))) (excM ⟨11, []⟩) nxM)
 (seqM (forM' (itM (nameM 1)) (tgN 2) b_Rule___init___Rule_o_1)
 (fldSet csAll 0 "lengths" (nameM 1))))
def F_Rule___init___Rule_o : Env → Res := initF0 3 m_Rule___init___Rule_o
def m__law_rule : M Fl :=
 (seqM (iteM (tstM (op2M dEq (consL (fnM dLen (consN 0 nilL)) (consL (pureM (.int 0)) nilL)))) (retM (makeX 0 F_Rule___init___Rule_o nilL nilL)) nxM)
 (seqM (iteM (tstM (op2M dEq (consL (fnM dLen (consN 0 nilL)) (consL (pureM (.int 1)) nilL)))) (retM (makeX 0 F_Rule___init___Rule_o (consL (op2M dIx (consN 0 (consL (pureM (.int 0)) nilL))) nilL) (pureM []))) nxM)
 (seqM (iteM (tstM (op2M dEq (consL (fnM dLen (consN 0 nilL)) (consL (pureM (.int 2)) nilL)))) (retM (makeX 0 F_Rule___init___Rule_o (consL (op2M dIx (consN 0 (consL (pureM (.int 0)) nilL))) (consL (op2M dIx (consN 0 (consL (pureM (.int 1)) nilL))) nilL)) (pureM []))) nxM)
 (seqM (iteM (tstM (op2M dEq (consL (fnM dLen (consN 0 nilL)) (consL (pureM (.int 3)) nilL)))) (retM (makeX 0 F_Rule___init___Rule_o (consL (op2M dIx (consN 0 (consL (pureM (.int 0)) nilL))) (consL (op2M dIx (consN 0 (consL (pureM (.int 1)) nilL))) (consL (op2M dIx (consN 0 (consL (pureM (.int 2)) nilL))) nilL))) (pureM []))) nxM)
 (seqM (iteM (tstM (op2M dEq (consL (fnM dLen (consN 0 nilL)) (consL (pureM (.int 4)) nilL)))) (retM (makeX 0 F_Rule___init___Rule_o (consL (op2M dIx (consN 0 (consL (pureM (.int 0)) nilL))) (consL (op2M dIx (consN 0 (consL (pureM (.int 1)) nilL))) (consL (op2M dIx (consN 0 (consL (pureM (.int 2)) nilL))) (consL (op2M dIx (consN 0 (consL (pureM (.int 3)) nilL))) nilL)))) (pureM []))) nxM)
 (seqM (iteM (tstM (op2M dEq (consL (fnM dLen (consN 0 nilL)) (consL (pureM (.int 5)) nilL)))) (retM (makeX 0 F_Rule___init___Rule_o (consL (op2M dIx (consN 0 (consL (pureM (.int 0)) nilL))) (consL (op2M dIx (consN 0 (consL (pureM (.int 1)) nilL))) (consL (op2M dIx (consN 0 (consL (pureM (.int 2)) nilL))) (consL (op2M dIx (consN 0 (consL (pureM (.int 3)) nilL))) (consL (op2M dIx (consN 0 (consL (pureM (.int 4)) nilL))) nilL))))) (pureM []))) nxM)
 (retM (makeX 0 F_Rule___init___Rule_o (consL (op2M dIx (consN 0 (consL (pureM (.int 0)) nilL))) (consL (op2M dIx (consN 0 (consL (pureM (.int 1)) nilL))) (consL (op2M dIx (consN 0 (consL (pureM (.int 2)) nilL))) (consL (op2M dIx (consN 0 (consL (pureM (.int 3)) nilL))) (consL (op2M dIx (consN 0 (consL (pureM (.int 4)) nilL))) (consL (op2M dIx (consN 0 (consL (pureM (.int 5)) nilL))) nilL)))))) (pureM [])))))))))
def F__law_rule : Env → Res := bodyF 1 [] m__law_rule
def c__law_is_right_1 : M Sl :=
 (lcM [3] (itM (nameM 0)) (tgN 3) (notM (truM (frzM (callM F__law_is_length [] (consA (nameM 3) nilA))))) (pureM (.int 1)))
def m__law_is_right : M Fl :=
 (seqM (setM 1 (fnM dReprN (consN 0 nilL)))
 (seqM (putM 2 (lamA l__law_outcome [118, 97, 108, 117, 101] (frzM (callM F__law_rule [] (consA (nameM 0) nilA)))))
 (seqM (iteM (orM (tstM (op2M dEqE (consN 0 (consL (frzM (lstM nilL)) nilL)))) (tstM (op2M dNe (consL (frzM c__law_is_right_1) (consL (frzM (lstM nilL)) nilL))))) (retD (andV (op2M dEq (consN 2 (consL (tupM (consL (pureM (.str [82, 111, 100, 115, 69, 114, 114, 111, 114])) nilL)) nilL))) (op2M dEq (consL (fnM dReprN (consN 0 nilL)) (consN 1 nilL))))) nxM)
 (seqM (iteM (orM (tstM (op2M dNe (consL (op2M dIx (consN 2 (consL (pureM (.int 0)) nilL))) (consL (pureM (.str [118, 97, 108, 117, 101])) nilL)))) (notM (truM (op1M (dIsi (isC [0, 1, 2, 3] [])) (consL (op2M dIx (consN 2 (consL (pureM (.int 1)) nilL))) nilL))))) (retD (pureM (.bl false))) nxM)
 (seqM (setM 4 (op2M dIx (consN 2 (consL (pureM (.int 1)) nilL))))
 (seqM (putM 5 (lstM (consL (frzM (propM [0, 1, 2, 3] fp_rods (nameM 4))) (consL (frzM (propM [0, 1, 2, 3] fp_total (nameM 4))) (consL (frzM (methM [0, 1, 2, 3] "options" fm_options [] (nameM 4) nilA)) (consL (selfM [0] 4) nilL))))))
 (seqM (iteM (orM (notM (truM (frzM (callM F__law_is_equal [] (consA (nameM 5) (consA (frzM (lstM (consL (nameM 0) (consL (fnM dSum (consN 0 nilL)) (consL (frzM (pureM (.md []))) (consL (pureM (.bl true)) nilL)))))) nilA)))))) (truM (op1M (dIsi (isO (isC [1, 3] [0]) (isC [2, 3] [0]))) (consN 4 nilL)))) (retD (pureM (.bl false))) nxM)
 (seqM (putM 6 (propM [0, 1, 2, 3] fp_rods (nameM 4)))
 (seqM (drpM (appM 6 (pureM (.int 7))))
 (seqM (bindM (pureM (.int 39)) fun d => bindM ((subM 6 (pureM (.int 0))) d) fun _ => nxM)
 (retD (andV (frzM (callM F__law_is_equal [] (consA (frzM (lstM (consL (frzM (propM [0, 1, 2, 3] fp_rods (nameM 4))) (consL (frzM (propM [0, 1, 2, 3] fp_total (nameM 4))) nilL)))) (consA (frzM (lstM (consL (nameM 0) (consL (fnM dSum (consN 0 nilL)) nilL)))) nilA)))) (op2M dEq (consL (fnM dReprN (consN 0 nilL)) (consN 1 nilL)))))))))))))))
def F__law_is_right : Env → Res := bodyF 7 [] m__law_is_right
def m__law_draw : M Fl :=
 (seqM (iteM (tstM (op2M dGt (consL (op2M dIx (consN 0 (consL (pureM (.int 0)) nilL))) (consL (pureM (.int 0)) nilL)))) (seqM (setM 2 (op2M dMod (consL (op2M dIx (consN 0 (consL (pureM (.int 0)) nilL))) (consN 1 nilL))))
 (seqM (bindM (op2M dDiv (consL (op2M dIx (consN 0 (consL (pureM (.int 0)) nilL))) (consN 1 nilL))) fun d => bindM ((subM 0 (pureM (.int 0))) d) fun _ => nxM)
 (retO 2))) nxM)
 (seqM (bindM (op2M dAdd (consL (op2M dIx (consN 0 (consL (pureM (.int 2)) nilL))) (consL (pureM (.int 1)) nilL))) fun d => bindM ((subM 0 (pureM (.int 2))) d) fun _ => nxM)
 (seqM (bindM (op2M dMod (consL (op2M dAdd (consL (op2M dAdd (consL (op2M dMul (consL (op2M dIx (consN 0 (consL (pureM (.int 1)) nilL))) (consL (pureM (.int 48271)) nilL))) (consL (op2M dMul (consL (pureM (.int 1009)) (consL (op2M dIx (consN 0 (consL (pureM (.int 2)) nilL))) nilL))) nilL))) (consL (pureM (.int 7)) nilL))) (consL (pureM (.int 2147483647)) nilL))) fun d => bindM ((subM 0 (pureM (.int 1))) d) fun _ => nxM)
 (seqM (setM 3 (op2M dMod (consL (op2M dAdd (consL (op2M dAdd (consL (op2M dMul (consL (op2M dIx (consN 0 (consL (pureM (.int 1)) nilL))) (consL (op2M dIx (consN 0 (consL (pureM (.int 1)) nilL))) nilL))) (consL (op2M dMul (consL (pureM (.int 69621)) (consL (op2M dIx (consN 0 (consL (pureM (.int 1)) nilL))) nilL))) nilL))) (consL (pureM (.int 11)) nilL))) (consL (pureM (.int 2147483629)) nilL))))
 (seqM (setM 3 (op2M dMod (consL (op2M dAdd (consL (op2M dMul (consN 3 (consN 3 nilL))) (consL (op2M dMul (consL (pureM (.int 40014)) (consN 3 nilL))) nilL))) (consL (pureM (.int 2147483587)) nilL))))
 (retD (op2M dMod (consL (op2M dDiv (consN 3 (consL (pureM (.int 16)) nilL))) (consN 1 nilL)))))))))
def F__law_draw : Env → Res := bodyF 4 [0] m__law_draw
def m__law_choose : M Fl :=
 (retD (op2M dIx (consN 1 (consL (frzM (callM F__law_draw [0] (consIO 0 (consA (fnM dLen (consN 1 nilL)) nilA)))) nilL))))
def F__law_choose : Env → Res := bodyF 2 [0] m__law_choose
def m__law_odd : M Fl :=
 (seqM (putM 1 (lstM (consL (pureM (.int 0)) (consL (op1M dNeg (consL (pureM (.int 1)) nilL)) (consL (pureM (.int 41)) (consL (pureM (.int 40)) (consL (pureM (.int 1)) (consL (pureM (.int 42)) (consL (op2M dPow (consL (pureM (.int 10)) (consL (pureM (.int 12)) nilL))) (consL (op1M dNeg (consL (pureM (.int 40)) nilL)) (consL (pureM (.bl true)) (consL (pureM (.bl false)) (consL (pureM .non) (consL (pureM (.str [49])) (consL (pureM (.str [])) (consL (tupM nilL) (consL (tupM (consL (pureM (.int 1)) nilL)) (consL (frzM (lstM nilL)) (consL (frzM (lstM (consL (pureM (.int 1)) nilL))) (consL (frzM (pureM (.md []))) (consL (frzM (dispM (consP (pureM (.int 1)) (pureM (.int 1)) (pureM [])))) (consL (pureM (.int 24)) nilL))))))))))))))))))))))
 (retM (callM F__law_choose [0] (consIO 0 (consA (nameM 1) nilA)))))
def F__law_odd : Env → Res := bodyF 2 [0] m__law_odd
def b__law_rods_1 : M Fl :=
 (seqM (iteM (tstM (op2M dEq (consN 3 (consL (pureM (.int 0)) nilL)))) (drpM (appM 5 (op2M dAdd (consL (pureM (.int 1)) (consL (frzM (callM F__law_draw [0] (consIO 0 (consA (pureM (.int 4)) nilA)))) nilL))))) nxM)
 (seqM (iteM (tstM (op2M dEq (consN 3 (consL (pureM (.int 1)) nilL)))) (drpM (appM 5 (nameM 4))) nxM)
 (seqM (iteM (tstM (op2M dEq (consN 3 (consL (pureM (.int 2)) nilL)))) (drpM (appM 5 (fnM dMax (consL (pureM (.int 1)) (consL (op2M dSub (consN 4 (consL (op2M dMod (consN 6 (consL (pureM (.int 2)) nilL))) nilL))) nilL))))) nxM)
 (seqM (iteM (tstM (op2M dEq (consN 3 (consL (pureM (.int 3)) nilL)))) (drpM (appM 5 (op2M dAdd (consL (pureM (.int 30)) (consL (frzM (callM F__law_draw [0] (consIO 0 (consA (pureM (.int 11)) nilA)))) nilL))))) nxM)
 (iteM (tstM (op2M dEq (consN 3 (consL (pureM (.int 4)) nilL)))) (drpM (appM 5 (op2M dAdd (consL (pureM (.int 1)) (consL (frzM (callM F__law_draw [0] (consIO 0 (consA (pureM (.int 40)) nilA)))) nilL))))) nxM)))))
def m__law_rods : M Fl :=
 (seqM (putsM [2, 3] (consV (fzM (op2M dAdd (consL (pureM (.int 1)) (consL (frzM (callM F__law_draw [0] (consIO 0 (consA (nameM 1) nilA)))) nilL)))) (consV (callM F__law_draw [0] (consIO 0 (consA (pureM (.int 5)) nilA))) nilV)))
 (seqM (putsM [4, 5] (consV (fzM (op2M dAdd (consL (pureM (.int 1)) (consL (frzM (callM F__law_draw [0] (consIO 0 (consA (pureM (.int 40)) nilA)))) nilL)))) (consV (lstM nilL) nilV)))
 (seqM (forM' (rng1M (consN 2 nilL)) (tgN 6) b__law_rods_1)
 (retO 5))))
def F__law_rods : Env → Res := bodyF 7 [0] m__law_rods
def m__law_too_many : M Fl :=
 (seqM (setM 1 (nameM 0))
 (retM (makeX 0 F_Rule___init___Rule_o (consL (nameM 1) (consL (pureM (.int 1)) (consL (nameM 1) (consL (pureM (.int 2)) (consL (nameM 1) (consL (pureM (.int 3)) (consL (nameM 1) (consL (pureM (.int 4)) (consL (nameM 1) (consL (pureM (.int 5)) (consL (nameM 1) (consL (pureM (.int 6)) (consL (pureM (.int 1)) nilL))))))))))))) (pureM []))))
def F__law_too_many : Env → Res := bodyF 2 [] m__law_too_many
def m__law_is_full : M Fl :=
 (seqM (setM 1 (nameM 0))
 (seqM (putM 2 (makeX 0 F_Rule___init___Rule_o (consL (nameM 1) (consL (pureM (.int 1)) (consL (nameM 1) (consL (pureM (.int 2)) (consL (nameM 1) (consL (pureM (.int 3)) (consL (nameM 1) (consL (pureM (.int 4)) (consL (nameM 1) (consL (pureM (.int 5)) (consL (nameM 1) (consL (pureM (.int 6)) nilL)))))))))))) (pureM [])))
 (seqM (iteM (notM (truM (frzM (callM F__law_is_equal [] (consA (frzM (lstM (consL (frzM (propM [0, 1, 2, 3] fp_total (nameM 2))) (consL (frzM (propM [0, 1, 2, 3] fp_rods (nameM 2))) nilL)))) (consA (frzM (lstM (consL (op2M dAdd (consL (op2M dMul (consL (pureM (.int 6)) (consN 0 nilL))) (consL (pureM (.int 21)) nilL))) (consL (frzM (lstM (consL (nameM 1) (consL (pureM (.int 1)) (consL (nameM 1) (consL (pureM (.int 2)) (consL (nameM 1) (consL (pureM (.int 3)) (consL (nameM 1) (consL (pureM (.int 4)) (consL (nameM 1) (consL (pureM (.int 5)) (consL (nameM 1) (consL (pureM (.int 6)) nilL)))))))))))))) nilL)))) nilA)))))) (retD (pureM (.bl false))) nxM)
 (retD (op2M dEq (consL (frzM (lamA l__law_outcome [118, 97, 108, 117, 101] (frzM (callM F__law_too_many [] (consA (nameM 0) nilA))))) (consL (tupM (consL (pureM (.str [82, 111, 100, 115, 69, 114, 114, 111, 114])) nilL)) nilL)))))))
def F__law_is_full : Env → Res := bodyF 3 [] m__law_is_full
def m__law_source : M Fl :=
 (retM (lstM (consL (fnM dMax (consL (pureM (.int 0)) (consL (op2M dSub (consN 0 (consL (op2M dPow (consL (pureM (.int 10)) (consL (pureM (.int 18)) nilL))) nilL))) nilL))) (consL (op2M dAdd (consL (op2M dMod (consN 0 (consL (pureM (.int 2147483629)) nilL))) (consL (pureM (.int 1)) nilL))) (consL (pureM (.int 0)) nilL)))))
def F__law_source : Env → Res := bodyF 1 [] m__law_source
def m__law_cell : M Fl :=
 (seqM (iteM (tstM (op2M dLt (consN 1 (consL (fnM dLen (consN 0 nilL)) nilL)))) (retD (op2M dIx (consN 0 (consN 1 nilL)))) nxM)
 (retD (pureM (.int 0))))
def F__law_cell : Env → Res := bodyF 2 [] m__law_cell
def b_law_1 : M Fl :=
 (seqM (putM 5 (callM F__law_rods [0] (consIO 3 (consA (pureM (.int 6)) nilA))))
 (seqM (putM 6 (fnV dListS (consN 5 nilL)))
 (seqM (bindM (frzM (callM F__law_odd [0] (consIO 3 nilA))) fun d => bindM ((subM 6 (frzM (callM F__law_draw [0] (consIO 3 (consA (fnM dLen (consN 5 nilL)) nilA))))) d) fun _ => nxM)
 (seqM (iteM (orM (notM (truM (frzM (callM F__law_is_right [] (consA (nameM 5) nilA))))) (orM (notM (truM (frzM (callM F__law_is_right [] (consA (nameM 6) nilA))))) (notM (truM (frzM (callM F__law_is_right [] (consA (frzM (lstM (consL (frzM (callM F__law_odd [0] (consIO 3 nilA))) nilL))) nilA))))))) (retD (pureM (.bl false))) nxM)
 (seqM (putM 7 (callM F__law_odd [0] (consIO 3 nilA)))
 (iteM (notM (truM (frzM (callM F__law_is_equal [] (consA (frzM (lstM (consL (frzM (callM F_Rule_is_rod [] (consA (nameM 7) nilA))) (consL (frzM (callM F_Rule_is_rod [] (consA (op2M dIx (consN 5 (consL (pureM (.int 0)) nilL))) nilA))) nilL)))) (consA (frzM (lstM (consL (frzM (callM F__law_is_length [] (consA (nameM 7) nilA))) (consL (pureM (.bl true)) nilL)))) nilA)))))) (retD (pureM (.bl false))) nxM))))))
def b_law_2 : M Fl :=
 (seqM (putM 3 (callM F__law_source [] (consA (frzM (callM F__law_cell [] (consA (nameM 0) (consA (nameM 2) nilA)))) nilA)))
 (seqM (iteM (notM (truM (frzM (callM F__law_is_full [] (consA (op2M dAdd (consL (pureM (.int 1)) (consL (frzM (callM F__law_draw [0] (consIO 3 (consA (pureM (.int 40)) nilA)))) nilL))) nilA))))) (retD (pureM (.bl false))) nxM)
 (forM' (rng1M (consL (pureM (.int 12)) nilL)) (tgN 4) b_law_1)))
def b_law_3 : M Fl :=
 (seqM (putM 1 (lstM (consL (pureM (.int 12)) (consL (pureM (.int 40)) (consL (pureM (.int 12)) (consL (pureM (.int 40)) (consL (pureM (.int 40)) nilL)))))))
 (seqM (iteM (notM (truM (frzM (callM F__law_is_equal [] (consA (nameM 1) (consA (frzM (lstM (consL (pureM (.int 12)) (consL (pureM (.int 40)) (consL (pureM (.int 12)) (consL (pureM (.int 40)) (consL (pureM (.int 40)) nilL))))))) nilA)))))) (retD (pureM (.bl false))) nxM)
 (seqM (forM' (rng1M (consL (fnM dMax (consL (pureM (.int 1)) (consL (fnM dMin (consL (fnM dLen (consN 0 nilL)) (consL (pureM (.int 4)) nilL))) nilL))) nilL)) (tgN 2) b_law_2)
 (retM (callM F__law_is_right [] (consA (frzM (lstM nilL)) nilA))))))
def m_law : M Fl :=
 (tryM [([9, 11, 12], [], fun _ => (retD (pureM (.bl false))))] b_law_3)
def F_law : Env → Res := bodyF 8 [] m_law
end Rz
namespace Rz
open PySem PySem.Spec PyProof.Rows L2
theorem supM_fz (cs : List Nat) (f : Nat → Env → Res) (io : List Nat) (ma : M (List Ag)) (c : Nat) (fs : List (Str × D)) (st : Env) (h : cs.contains c = true) : supM cs f io ma (.fz (.ins c fs) :: st) = callM (f c) io (preA (.d (.ins c fs)) ma) (.fz (.ins c fs) :: st) := if_pos h
theorem fld_len (r : RP) (h : r.Ok) : dFld csAll "lengths" r.d = some (tupI r.lens) := by
  rcases h.cases with ⟨l, rfl⟩ | ⟨l, s, f, rfl⟩ | ⟨l, ri, le, rfl⟩ | ⟨l, s, f, ri, le, rfl⟩ <;> rfl
end Rz
namespace Rz
open PySem PySem.Spec PyProof.Rows L2
theorem callO_io {f : Env → Res} {ds : List D} {st : Env} {c : Nat} {s s' v : Sl} (h0 : st[c]? = some s) (ho : ownd s = true) (h : f (s :: ds.map .fz) = .ret v [s']) : callO f [0] (.io c :: ds.map Ag.d) st = .ok v (st.set c s') := by
  have hr : rho (.io c :: ds.map Ag.d) c = some 0 := by
    show List.findIdx? (isIO c) (.io c :: ds.map Ag.d) = some 0
    rw [List.findIdx?_cons]
    have : isIO c (.io c) = true := by simp [isIO]
    rw [this]; rfl
  have ha : agsOk st (.io c :: ds.map Ag.d) [0] = true := by
    unfold agsOk
    rw [List.all_eq_true]
    intro i hi
    cases i with
    | zero => simp [hr, h0, ho]
    | succ i =>
      rw [List.getElem?_cons_succ, List.getElem?_map]
      cases ds[i]? <;> rfl
  have hm : (Ag.io c :: ds.map Ag.d).map (slOf st) = s :: ds.map .fz := by
    simp [slOf, h0]
  unfold callO
  rw [if_pos ha, hm, h]
  rfl
theorem callO_io1 {f : Env → Res} {a : D} {st : Env} {c : Nat} {s s' v : Sl} (h0 : st[c]? = some s) (ho : ownd s = true) (h : f [s, .fz a] = .ret v [s']) : callO f [0] [.io c, .d a] st = .ok v (st.set c s') := callO_io (ds := [a]) h0 ho h
theorem callO_io4 {f : Env → Res} {a b d e : D} {st : Env} {c : Nat} {s s' v : Sl} (h0 : st[c]? = some s) (ho : ownd s = true) (h : f [s, .fz a, .fz b, .fz d, .fz e] = .ret v [s']) : callO f [0] [.io c, .d a, .d b, .d d, .d e] st = .ok v (st.set c s') := callO_io (ds := [a, b, d, e]) h0 ho h
theorem callO_io0 {f : Env → Res} {st : Env} {c : Nat} {s s' v : Sl} (h0 : st[c]? = some s) (ho : ownd s = true) (h : f [s] = .ret v [s']) : callO f [0] [.io c] st = .ok v (st.set c s') := callO_io (ds := []) h0 ho h
theorem callO_io2 {f : Env → Res} {a b : D} {st : Env} {c : Nat} {s s' v : Sl} (h0 : st[c]? = some s) (ho : ownd s = true) (h : f [s, .fz a, .fz b] = .ret v [s']) : callO f [0] [.io c, .d a, .d b] st = .ok v (st.set c s') := callO_io (ds := [a, b]) h0 ho h
theorem callO_io3 {f : Env → Res} {a b d : D} {st : Env} {c : Nat} {s s' v : Sl} (h0 : st[c]? = some s) (ho : ownd s = true) (h : f [s, .fz a, .fz b, .fz d] = .ret v [s']) : callO f [0] [.io c, .d a, .d b, .d d] st = .ok v (st.set c s') := callO_io (ds := [a, b, d]) h0 ho h
end Rz
namespace Rz
open PySem PySem.Spec PyProof.Rows L2
@[simp] theorem dIx_l0 {x : D} {xs : List D} : dIx (.lst (x :: xs)) (.int 0) = some x := dIx_lstN (n := 0) rfl
@[simp] theorem dIx_l1 {x y : D} {xs : List D} : dIx (.lst (x :: y :: xs)) (.int 1) = some y := dIx_lstN (n := 1) rfl
@[simp] theorem dIx_l2 {x y z : D} {xs : List D} : dIx (.lst (x :: y :: z :: xs)) (.int 2) = some z := dIx_lstN (n := 2) rfl
@[simp] theorem dIx_l3 {x y z u : D} {xs : List D} : dIx (.lst (x :: y :: z :: u :: xs)) (.int 3) = some u := dIx_lstN (n := 3) rfl
@[simp] theorem dIx_t0 {x : D} {xs : List D} : dIx (.tup (x :: xs)) (.int 0) = some x := dIx_tupN (n := 0) rfl
theorem ix30 : ixN 3 0 = some 0 := rfl
theorem ix32 : ixN 3 2 = some 2 := rfl
@[simp] theorem dIx_l4 {x y z u v : D} {xs : List D} : dIx (.lst (x :: y :: z :: u :: v :: xs)) (.int 4) = some v := dIx_lstN (n := 4) rfl
@[simp] theorem dIx_l5 {x y z u v w : D} {xs : List D} : dIx (.lst (x :: y :: z :: u :: v :: w :: xs)) (.int 5) = some w := dIx_lstN (n := 5) rfl
theorem ix31 : ixN 3 1 = some 1 := rfl
end Rz
namespace Rz
open PySem PySem.Spec PyProof.Rows L2
structure Src where
  a : Int
  b : Int
  n : Int
def Src.l (p : Src) : List D := [.int p.a, .int p.b, .int p.n]
structure Src.Ok (p : Src) : Prop where
  a0 : 0 ≤ p.a
  b0 : 0 ≤ p.b
  b1 : p.b < 2147483648
theorem eq_draw (p : Src) (h : p.Ok) (k : Int) (hk : 0 < k) (hk2 : k ≤ 1000000) : ∃ (v : Int) (p' : Src), F__law_draw [.ml p.l, .fz (.int k)] = .ret (.fz (.int v)) [.ml p'.l] ∧ 0 ≤ v ∧ v < k ∧ p'.Ok := by
  obtain ⟨a, b, n⟩ := p
  obtain ⟨a0, b0, b1⟩ := h
  dsimp only at a0 b0 b1
  by_cases ha : 0 < a
  · refine ⟨a % k, ⟨a / k, b, n⟩, ?_, Int.emod_nonneg _ (by omega), Int.emod_lt_of_pos _ hk, Int.ediv_nonneg a0 (by omega), b0, b1⟩
    have e1 : dMod (.int a) (.int k) = some (.int (a % k)) := dMod_int hk
    have e2 : dDiv (.int a) (.int k) = some (.int (a / k)) := dDiv_int ⟨hk, by omega⟩
    unfold F__law_draw m__law_draw Src.l
    simp [e1, e2, ha, ix30, ix32]
  · have ha0 : a = 0 := by omega
    subst ha0
    have e1 : dMul (.int b) (.int 48271) = some (.int (b * 48271)) := dMul_l (by omega)
    have e2 : dMul (.int 1009) (.int (n + 1)) = some (.int (1009 * (n + 1))) := dMul_l (by decide)
    have e4 : ∀ x : Int, dMod (.int x) (.int 2147483647) = some (.int (x % 2147483647)) := fun x => dMod_int (by decide)
    have e5 : ∀ x : Int, dMod (.int x) (.int 2147483629) = some (.int (x % 2147483629)) := fun x => dMod_int (by decide)
    have e6 : ∀ x : Int, dMod (.int x) (.int 2147483587) = some (.int (x % 2147483587)) := fun x => dMod_int (by decide)
    have e7 : ∀ x y : Int, dMul (.int (x % 2147483647)) (.int y) = some (.int (x % 2147483647 * y)) := fun x y => dMul_l (by omega)
    have e8 : ∀ x y : Int, dMul (.int (x % 2147483629)) (.int y) = some (.int (x % 2147483629 * y)) := fun x y => dMul_l (by omega)
    have e9 : ∀ y : Int, dMul (.int 69621) (.int y) = some (.int (69621 * y)) := fun y => dMul_l (by decide)
    have e10 : ∀ y : Int, dMul (.int 40014) (.int y) = some (.int (40014 * y)) := fun y => dMul_l (by decide)
    have e11 : ∀ x : Int, dDiv (.int x) (.int 16) = some (.int (x / 16)) := fun x => dDiv_int (by decide)
    have e12 : ∀ x : Int, dMod (.int x) (.int k) = some (.int (x % k)) := fun x => dMod_int hk
    have hb2 : 0 ≤ (b * 48271 + 1009 * (n + 1) + 7) % 2147483647 ∧ (b * 48271 + 1009 * (n + 1) + 7) % 2147483647 < 2147483648 := by omega
    refine ⟨((((b * 48271 + 1009 * (n + 1) + 7) % 2147483647 * ((b * 48271 + 1009 * (n + 1) + 7) % 2147483647) + 69621 * ((b * 48271 + 1009 * (n + 1) + 7) % 2147483647) + 11) % 2147483629 * (((b * 48271 + 1009 * (n + 1) + 7) % 2147483647 * ((b * 48271 + 1009 * (n + 1) + 7) % 2147483647) + 69621 * ((b * 48271 + 1009 * (n + 1) + 7) % 2147483647) + 11) % 2147483629) + 40014 * (((b * 48271 + 1009 * (n + 1) + 7) % 2147483647 * ((b * 48271 + 1009 * (n + 1) + 7) % 2147483647) + 69621 * ((b * 48271 + 1009 * (n + 1) + 7) % 2147483647) + 11) % 2147483629)) % 2147483587 / 16) % k, ⟨0, (b * 48271 + 1009 * (n + 1) + 7) % 2147483647, n + 1⟩, ?_, Int.emod_nonneg _ (by omega), Int.emod_lt_of_pos _ hk, Int.le_refl 0, hb2.1, hb2.2⟩
    unfold F__law_draw m__law_draw Src.l
    simp [e1, e2, e4, e5, e6, e7, e8, e9, e10, e11, e12, ix30, ix31, ix32]
theorem call_draw (p : Src) (h : p.Ok) (k : Int) (hk : 0 < k) (hk2 : k ≤ 1000000) : ∃ (v : Int) (p' : Src), (∀ (st : Env) (c : Nat), st[c]? = some (.ml p.l) → callO F__law_draw [0] [.io c, .d (.int k)] st = .ok (.fz (.int v)) (st.set c (.ml p'.l))) ∧ 0 ≤ v ∧ v < k ∧ p'.Ok := by
  obtain ⟨v, p', e, h1, h2, h3⟩ := eq_draw p h k hk hk2
  exact ⟨v, p', fun st c hc => callO_io1 hc rfl e, h1, h2, h3⟩
theorem eq_source (x : Int) : ∃ p : Src, F__law_source [.fz (.int x)] = .ret (.ml p.l) [] ∧ p.Ok := by
  have hb : 0 ≤ x % 2147483629 + 1 ∧ x % 2147483629 + 1 < 2147483648 := by omega
  refine ⟨⟨max 0 (x - 1000000000000000000), x % 2147483629 + 1, 0⟩, ?_, by dsimp only; omega, hb.1, hb.2⟩
  have e1 : dPow (.int 10) (.int 18) = some (.int 1000000000000000000) := by rfl
  have e2 : dMod (.int x) (.int 2147483629) = some (.int (x % 2147483629)) := dMod_int (by decide)
  unfold F__law_source m__law_source
  simp [e1, e2, dMax2]
  rfl
theorem eq_cell (ns : List Int) (hl : ns.length ≤ 63) (k : Nat) : ∃ x : Int, F__law_cell [.fz (.scr ns), .fz (.int k)] = .ret (.fz (.int x)) [] := by
  have hd : dLen [.scr ns] = some (.int ns.length) := rfl
  by_cases h : k < ns.length
  · have h' : (k : Int) < (ns.length : Int) := by omega
    have e : dIx (.scr ns) (.int k) = some (.int ns[k]) := by
      show (atI ns (k : Int)).map D.int = _
      rw [atI_nat', List.getElem?_eq_getElem h]; rfl
    refine ⟨ns[k], ?_⟩
    unfold F__law_cell m__law_cell
    simp [hd, h', e]
  · have h' : ¬ (k : Int) < (ns.length : Int) := by omega
    refine ⟨0, ?_⟩
    unfold F__law_cell m__law_cell
    simp [hd, h']
theorem eq_choose (p : Src) (h : p.Ok) (xs : List D) (h0 : xs ≠ []) (hl : xs.length ≤ 1000000) : ∃ (i : Nat) (x : D) (p' : Src), F__law_choose [.ml p.l, .fz (.lst xs)] = .ret (.fz x) [.ml p'.l] ∧ xs[i]? = some x ∧ p'.Ok := by
  have hp := List.length_pos_iff.mpr h0
  obtain ⟨v, p', c, h1, h2, k1⟩ := call_draw p h xs.length (by omega) (by omega)
  have hv : v.toNat < xs.length := by omega
  have hx : xs[v.toNat]? = some xs[v.toNat] := List.getElem?_eq_getElem hv
  have e : dIx (.lst xs) (.int v) = some xs[v.toNat] := by
    have e2 := dIx_lstN hx
    have e3 : ((v.toNat : Nat) : Int) = v := by omega
    rwa [e3] at e2
  refine ⟨v.toNat, xs[v.toNat], p', ?_, hx, k1⟩
  generalize xs[v.toNat] = y at e
  unfold F__law_choose m__law_choose
  simp [c, e]
theorem call_choose (p : Src) (h : p.Ok) (ws : List (List Nat)) (h0 : ws ≠ []) (hl : ws.length ≤ 1000000) : ∃ (w : List Nat) (p' : Src), w ∈ ws ∧ (∀ (st : Env) (c : Nat), st[c]? = some (.ml p.l) → callO F__law_choose [0] [.io c, .d (.lst (ws.map .str))] st = .ok (.fz (.str w)) (st.set c (.ml p'.l))) ∧ p'.Ok := by
  obtain ⟨i, x, p', e, hx, k1⟩ := eq_choose p h (ws.map .str) (by simpa using h0) (by simpa using hl)
  rw [List.getElem?_map] at hx
  obtain ⟨w, hw, rfl⟩ := Option.map_eq_some_iff.mp hx
  exact ⟨w, p', List.mem_of_getElem? hw, fun st c hc => callO_io1 hc rfl e, k1⟩
end Rz
namespace Rz
open PySem PySem.Spec PyProof.Rows L2
theorem short_int : ∀ k ∈ List.range 500, (PyData.shown (.int (k : Int))).length ≤ 8 := by decide +kernel
theorem pyL_short : ∀ (xs : List D), (∀ d ∈ xs, d.py.showable = true ∧ d.py.leavesShort 8 = true) → PyData.showableAll (pyL xs) = true ∧ PyData.leavesShortAll 8 (pyL xs) = true
  | [], _ => ⟨rfl, rfl⟩
  | d :: ds, h => by
    obtain ⟨a, b⟩ := pyL_short ds fun x hx => h x (.tail _ hx)
    obtain ⟨c, d⟩ := h d (.head _)
    simp only [pyL, PyData.showableAll, PyData.leavesShortAll, a, b, c, d, Bool.and_self, and_self]
theorem short_i {i : Int} (h0 : 0 ≤ i) (h1 : i < 500) : (D.int i).py.showable = true ∧ (D.int i).py.leavesShort 8 = true := by
  obtain ⟨k, rfl⟩ := Int.eq_ofNat_of_zero_le h0
  have hk : k < 500 := by omega
  refine ⟨?_, ?_⟩
  · simp only [D.py, PyData.showable, decide_eq_true_eq]
    have := Nat.log2_le_self (k : Int).natAbs
    have : (k : Int).natAbs = k := Int.natAbs_natCast k
    omega
  · simp only [D.py, PyData.leavesShort, decide_eq_true_eq]
    exact short_int k (List.mem_range.mpr hk)
theorem short_w {w : List Nat} (h : isW w) : (D.str w).py.showable = true ∧ (D.str w).py.leavesShort 8 = true := by
  refine ⟨by simp only [D.py, PyData.showable], ?_⟩
  simp only [D.py, PyData.leavesShort, List.all_eq_true, decide_eq_true_eq]
  intro c hc
  rcases h c hc with rfl | rfl <;> decide
theorem short_t {xs : List D} (h : ∀ d ∈ xs, d.py.showable = true ∧ d.py.leavesShort 8 = true) : (D.tup xs).py.showable = true ∧ (D.tup xs).py.leavesShort 8 = true := by
  obtain ⟨a, b⟩ := pyL_short xs h
  simp only [D.py, PyData.showable, PyData.leavesShort, a, b, and_self]
theorem repr_ok {xs : List D} (hp : plainL xs = true) (hd : depL xs ≤ 32) (h : ∀ d ∈ xs, d.py.showable = true ∧ d.py.leavesShort 8 = true) (hb : (D.tup xs).py.bulk ≤ 1048576) : ∃ s, dRepr [.tup xs] = some (.str s) := by
  obtain ⟨a, b⟩ := short_t h
  have l := PyData.shown_le_bulk 8 (by decide) _ b
  exact ⟨(D.tup xs).py.shown.cps.toList, if_pos (by rw [hp, a, decide_eq_true hd, decide_eq_true (by omega)]; rfl)⟩
theorem repr_28 {i : Int} (h0 : 0 ≤ i) (h1 : i < 500) {w : List Nat} (hw : isW w) (hl : w.length ≤ 100) : ∃ s, dRepr [.tup [.tup [], .tup [.int i, .str w]]] = some (.str s) := by
  refine repr_ok rfl (by simp [depL, D.dep]) (fun d hd => ?_) ?_
  · rcases List.mem_cons.mp hd with rfl | hd
    · exact short_t fun _ h => (List.not_mem_nil h).elim
    · rw [List.mem_singleton] at hd
      subst hd
      refine short_t fun d hd => ?_
      rcases List.mem_cons.mp hd with rfl | hd
      · exact short_i h0 h1
      · rw [List.mem_singleton] at hd
        subst hd
        exact short_w hw
  · simp only [D.py, pyL, PyData.bulk, PyData.bulkAll, List.size_toArray]
    omega
end Rz
namespace Rz
open PySem PySem.Spec PyProof.Rows L2
def lfB : D → Bool
  | .non => true
  | .bl _ => true
  | .int i => decide (0 ≤ i ∧ i < 500) || decide (i = -1) || decide (i = 1000000000000)
  | .str s => decide (s.length ≤ 1) && s.all (fun c => decide (c < 128))
  | _ => false
def smB : D → Bool
  | .tup xs => xs.all lfB && decide (xs.length ≤ 200)
  | .lst xs => xs.all lfB && decide (xs.length ≤ 200)
  | d => lfB d
def thB : D → Bool
  | .tup xs => xs.all smB && decide (xs.length ≤ 200)
  | .lst xs => xs.all smB && decide (xs.length ≤ 200)
  | .dct ks => ks.isEmpty
  | d => lfB d
structure Sml (d : D) (m b : Nat) : Prop where
  p : d.plain = true
  dp : d.dep ≤ m
  s : d.py.showable = true
  l : d.py.leavesShort 16 = true
  b : d.py.bulk ≤ b
theorem int_short {i : Int} (h : (decide (0 ≤ i ∧ i < 500) || decide (i = -1) || decide (i = 1000000000000)) = true) : (D.int i).py.showable = true ∧ (D.int i).py.leavesShort 16 = true := by
  rw [Bool.or_eq_true, Bool.or_eq_true, decide_eq_true_eq, decide_eq_true_eq, decide_eq_true_eq] at h
  rcases h with (h | h) | h
  · obtain ⟨a, b⟩ := short_i h.1 h.2
    refine ⟨a, ?_⟩
    simp only [D.py, PyData.leavesShort, decide_eq_true_eq] at b ⊢
    omega
  · subst h
    exact ⟨by decide, by decide +kernel⟩
  · subst h
    exact ⟨by decide +kernel, by decide +kernel⟩
theorem lf_sml {d : D} (h : lfB d = true) : Sml d 0 1 := by
  cases d with
  | non => exact ⟨rfl, Nat.le_refl _, rfl, rfl, Nat.zero_le _⟩
  | bl b => exact ⟨rfl, Nat.le_refl _, rfl, rfl, Nat.zero_le _⟩
  | int i =>
    obtain ⟨a, b⟩ := int_short h
    exact ⟨rfl, Nat.le_refl _, a, b, Nat.zero_le _⟩
  | str s =>
    obtain ⟨h1, h2⟩ := Bool.and_eq_true_iff.mp h
    refine ⟨rfl, Nat.le_refl _, rfl, ?_, ?_⟩
    · simp only [D.py, PyData.leavesShort, List.all_eq_true, decide_eq_true_eq]
      intro c hc
      have := of_decide_eq_true (List.all_eq_true.mp h2 c hc)
      have h16 : 128 ≤ 16 ^ 8 := by decide
      omega
    · have := of_decide_eq_true h1
      simpa [D.py, PyData.bulk] using this
  | _ => cases h
theorem sml_all {P : D → Bool} {m b : Nat} (hP : ∀ d, P d = true → Sml d m b) : ∀ xs : List D, xs.all P = true → plainL xs = true ∧ depL xs ≤ m ∧ PyData.showableAll (pyL xs) = true ∧ PyData.leavesShortAll 16 (pyL xs) = true ∧ PyData.bulkAll (pyL xs) ≤ (b + 1) * xs.length
  | [], _ => ⟨rfl, Nat.zero_le _, rfl, rfl, Nat.zero_le _⟩
  | d :: xs, h => by
    rw [List.all_cons, Bool.and_eq_true] at h
    obtain ⟨h1, h2, h3, h4, h5⟩ := sml_all hP xs h.2
    have s := hP d h.1
    refine ⟨?_, ?_, ?_, ?_, ?_⟩
    · show (d.plain && plainL xs) = true
      rw [s.p, h1]; rfl
    · show max d.dep (depL xs) ≤ m
      exact Nat.max_le.mpr ⟨s.dp, h2⟩
    · show (d.py.showable && PyData.showableAll (pyL xs)) = true
      rw [s.s, h3]; rfl
    · show (d.py.leavesShort 16 && PyData.leavesShortAll 16 (pyL xs)) = true
      rw [s.l, h4]; rfl
    · show d.py.bulk + 1 + PyData.bulkAll (pyL xs) ≤ _
      have := s.b
      rw [List.length_cons, Nat.mul_add]
      omega
theorem sml_tup {xs : List D} {m b n : Nat} (h : plainL xs = true ∧ depL xs ≤ m ∧ PyData.showableAll (pyL xs) = true ∧ PyData.leavesShortAll 16 (pyL xs) = true ∧ PyData.bulkAll (pyL xs) ≤ (b + 1) * xs.length) (hl : (b + 1) * xs.length ≤ n) : Sml (.tup xs) (m + 1) n ∧ Sml (.lst xs) (m + 1) n := by
  obtain ⟨h1, h2, h3, h4, h5⟩ := h
  have e1 : PyData.bulk (D.tup xs).py = PyData.bulkAll (pyL xs) := by simp [D.py, PyData.bulk]
  have e2 : PyData.bulk (D.lst xs).py = PyData.bulkAll (pyL xs) := by simp [D.py, PyData.bulk]
  exact ⟨⟨h1, Nat.succ_le_succ h2, by simpa [D.py, PyData.showable] using h3, by simpa [D.py, PyData.leavesShort] using h4, by rw [e1]; omega⟩,
    ⟨h1, Nat.succ_le_succ h2, by simpa [D.py, PyData.showable] using h3, by simpa [D.py, PyData.leavesShort] using h4, by rw [e2]; omega⟩⟩
theorem Sml.mono {d : D} {m b m' b' : Nat} (s : Sml d m b) (h : m ≤ m') (h' : b ≤ b') : Sml d m' b' := ⟨s.p, Nat.le_trans s.dp h, s.s, s.l, Nat.le_trans s.b h'⟩
theorem sm_sml {d : D} (h : smB d = true) : Sml d 1 400 := by
  cases d with
  | tup xs =>
    obtain ⟨h1, h2⟩ := Bool.and_eq_true_iff.mp (show (xs.all lfB && decide (xs.length ≤ 200)) = true from h)
    have := of_decide_eq_true h2
    exact (sml_tup (sml_all (fun _ q => lf_sml q) xs h1) (by omega)).1
  | lst xs =>
    obtain ⟨h1, h2⟩ := Bool.and_eq_true_iff.mp (show (xs.all lfB && decide (xs.length ≤ 200)) = true from h)
    have := of_decide_eq_true h2
    exact (sml_tup (sml_all (fun _ q => lf_sml q) xs h1) (by omega)).2
  | _ => exact Sml.mono (lf_sml (by exact h)) (by decide) (by decide)
theorem sm_of {d : D} (h : lfB d = true) : smB d = true := by
  cases d <;> first | exact h | cases h
theorem shown_le {d : PyData} {n : Nat} (h : d.leavesShort 16 = true) (hb : d.bulk ≤ n) (hn : n ≤ 500000) : d.shown.length ≤ 16777216 := by
  have := PyData.shown_le_bulk 16 (by decide) d h
  omega
theorem th_repr {T : D} (h : thB T = true) : ∃ s, dReprK [T] = some (.str s) := by
  cases T with
  | tup xs =>
    obtain ⟨h1, h2⟩ := Bool.and_eq_true_iff.mp (show (xs.all smB && decide (xs.length ≤ 200)) = true from h)
    have h2 := of_decide_eq_true h2
    have a := sml_all (fun _ q => sm_sml q) xs h1
    have s := (sml_tup (n := 80200) a (by omega)).1
    have l := shown_le s.l s.b (by omega)
    exact ⟨(D.tup xs).py.shown.cps.toList, if_pos (by rw [a.1, s.s, decide_eq_true (show depL xs ≤ 32 by have := a.2.1; omega), decide_eq_true l]; rfl)⟩
  | lst xs =>
    obtain ⟨h1, h2⟩ := Bool.and_eq_true_iff.mp (show (xs.all smB && decide (xs.length ≤ 200)) = true from h)
    have h2 := of_decide_eq_true h2
    have a := sml_all (fun _ q => sm_sml q) xs h1
    have s := (sml_tup (n := 80200) a (by omega)).2
    have l := shown_le s.l s.b (by omega)
    exact ⟨(D.lst xs).py.shown.cps.toList, if_pos (by rw [a.1, s.s, decide_eq_true (show depL xs ≤ 32 by have := a.2.1; omega), decide_eq_true l]; rfl)⟩
  | dct ks =>
    cases ks with
    | nil =>
      have hc : (([] : List (DK × D)).all (fun e => flatV e.2) && decide ((kvPy []).depth ≤ 32) && (kvPy []).showable && decide ((kvPy []).shown.length ≤ 16777216)) = true := by decide +kernel
      refine ⟨(kvPy []).shown.cps.toList, ?_⟩
      show (if (([] : List (DK × D)).all (fun e => flatV e.2) && decide ((kvPy []).depth ≤ 32) && (kvPy []).showable && decide ((kvPy []).shown.length ≤ 16777216)) = true then some (D.str (kvPy []).shown.cps.toList) else none) = _
      exact if_pos hc
    | cons a b => cases h
  | non => exact ⟨_, rfl⟩
  | bl b => exact ⟨_, rfl⟩
  | int i =>
    have s := lf_sml (d := .int i) h
    have := s.s
    simp only [D.py, PyData.showable, decide_eq_true_eq] at this
    exact ⟨_, if_pos this⟩
  | str x =>
    have s := lf_sml (d := .str x) h
    have l := shown_le s.l s.b (by omega)
    exact ⟨_, if_pos l⟩
  | ins c fs => cases h
  | scr xs => cases h
end Rz
namespace Rz
open PySem PySem.Spec PyProof.Rows L2
structure SmD (d : D) (m b : Nat) : Prop where
  p : plN d = true
  dp : (pyN d).depth ≤ m
  s : (pyN d).showable = true
  l : (pyN d).leavesShort 16 = true
  b : (pyN d).bulk ≤ b
theorem SmD.mono {d : D} {m b m' b' : Nat} (s : SmD d m b) (h : m ≤ m') (h' : b ≤ b') : SmD d m' b' := ⟨s.p, Nat.le_trans s.dp h, s.s, s.l, Nat.le_trans s.b h'⟩
theorem smd_leaf {d : D} (h : lfB d = true) : SmD d 0 100 := by
  have s := (lf_sml h).mono (m' := 0) (b' := 100) (Nat.le_refl _) (by decide)
  cases d with
  | non => exact ⟨rfl, Nat.le_refl _, rfl, rfl, Nat.zero_le _⟩
  | bl b => exact ⟨rfl, Nat.le_refl _, rfl, rfl, Nat.zero_le _⟩
  | int i => exact ⟨rfl, Nat.le_refl _, s.s, s.l, s.b⟩
  | str x => exact ⟨rfl, Nat.le_refl _, s.s, s.l, s.b⟩
  | _ => cases h
theorem smd_int {i : Int} (h : lfB (.int i) = true) : SmD (.int i) 0 1 := by
  have s := smd_leaf h
  exact ⟨s.p, s.dp, s.s, s.l, by simp [pyN, PyData.bulk]⟩
theorem smd_all {m b : Nat} : ∀ xs : List D, (∀ x ∈ xs, SmD x m b) → plNL xs = true ∧ PyData.depthAll (pyNL xs) ≤ m ∧ PyData.showableAll (pyNL xs) = true ∧ PyData.leavesShortAll 16 (pyNL xs) = true ∧ PyData.bulkAll (pyNL xs) ≤ (b + 1) * xs.length
  | [], _ => ⟨rfl, Nat.zero_le _, rfl, rfl, Nat.zero_le _⟩
  | d :: xs, h => by
    obtain ⟨h1, h2, h3, h4, h5⟩ := smd_all xs fun x hx => h x (.tail _ hx)
    have s := h d (.head _)
    refine ⟨?_, ?_, ?_, ?_, ?_⟩
    · show (plN d && plNL xs) = true
      rw [s.p, h1]; rfl
    · show max (pyN d).depth (PyData.depthAll (pyNL xs)) ≤ m
      exact Nat.max_le.mpr ⟨s.dp, h2⟩
    · show ((pyN d).showable && PyData.showableAll (pyNL xs)) = true
      rw [s.s, h3]; rfl
    · show ((pyN d).leavesShort 16 && PyData.leavesShortAll 16 (pyNL xs)) = true
      rw [s.l, h4]; rfl
    · show (pyN d).bulk + 1 + PyData.bulkAll (pyNL xs) ≤ _
      have := s.b
      rw [List.length_cons, Nat.mul_add]
      omega
theorem smd_row {xs : List D} {m b n : Nat} (h : ∀ x ∈ xs, SmD x m b) (hl : (b + 1) * xs.length ≤ n) : SmD (.tup xs) (m + 1) n ∧ SmD (.lst xs) (m + 1) n := by
  obtain ⟨h1, h2, h3, h4, h5⟩ := smd_all xs h
  refine ⟨⟨h1, ?_, by simpa [pyN, PyData.showable] using h3, by simpa [pyN, PyData.leavesShort] using h4, ?_⟩, ⟨h1, ?_, by simpa [pyN, PyData.showable] using h3, by simpa [pyN, PyData.leavesShort] using h4, ?_⟩⟩
  · simpa [pyN, PyData.depth] using h2
  · simp only [pyN, PyData.bulk]; omega
  · simpa [pyN, PyData.depth] using h2
  · simp only [pyN, PyData.bulk]; omega
theorem smd_d0 : SmD (.dct []) 1 0 := ⟨rfl, by simp [pyN, pyNK, PyData.depth, PyData.depthKv], rfl, rfl, by simp [pyN, pyNK, PyData.bulk, PyData.bulkKv]⟩
theorem reprD_of {d : D} {m b : Nat} (s : SmD d m b) (hd : m ≤ 32) (hb : b ≤ 500000) (hf : ∀ c fs, d ≠ .ins c fs) (hs : ∀ xs, d ≠ .scr xs) : ∃ t, dReprN [d] = some (.str t) := by
  have l := shown_le s.l s.b hb
  have ok : okN d = true := by
    unfold okN
    have := s.dp
    rw [s.p, s.s, decide_eq_true (show (pyN d).depth ≤ 32 by omega), decide_eq_true l]; rfl
  cases d with
  | tup xs => exact ⟨_, if_pos ok⟩
  | lst xs => exact ⟨_, if_pos ok⟩
  | dct ks => exact ⟨_, if_pos ok⟩
  | non => exact ⟨_, rfl⟩
  | bl b => exact ⟨_, rfl⟩
  | int i =>
    have := s.s
    simp only [pyN, PyData.showable, decide_eq_true_eq] at this
    exact ⟨_, if_pos this⟩
  | str x => exact ⟨_, if_pos l⟩
  | ins c fs => exact absurd rfl (hf c fs)
  | scr xs => exact absurd rfl (hs xs)
end Rz
namespace Rz
open PySem PySem.Spec PyProof.Rows L2
theorem rng1A {ml : M (List D)} {st st' : Env} {n : Nat} (h : ml st = .ok [.int n] st') (hn : n ≤ 1000000) : rng1M ml st = .ok (((List.range n).map fun i : Nat => (i : Int)).map .int) st' := by
  have := rng1M_of h hn
  rw [this, List.map_map]
  congr 1
  exact List.map_congr_left fun i _ => by simp
theorem rd_step (p : Src) (hp : p.Ok) (M N : D) (w : Int) (hw : 0 ≤ w ∧ w < 5) (one : Int) (h1 : 1 ≤ one ∧ one ≤ 40) (X : List D) (hX : X.length < 16777216) (i : Int) :
    ∃ (x : Int) (p' : Src), b__law_rods_1 [.ml p.l, .fz M, .fz N, .fz (.int w), .fz (.int one), .ml X, .fz (.int i)] = .ok .nx [.ml p'.l, .fz M, .fz N, .fz (.int w), .fz (.int one), .ml (X ++ [.int x]), .fz (.int i)] ∧ 1 ≤ x ∧ x ≤ 40 ∧ p'.Ok := by
  have hw5 : w = 0 ∨ w = 1 ∨ w = 2 ∨ w = 3 ∨ w = 4 := by omega
  rcases hw5 with rfl | rfl | rfl | rfl | rfl
  · obtain ⟨v, p', c1, v0, v1, k⟩ := call_draw p hp 4 (by decide) (by decide)
    refine ⟨1 + v, p', ?_, by omega, by omega, k⟩
    unfold b__law_rods_1
    simp [c1, hX]
  · refine ⟨one, p, ?_, h1.1, h1.2, hp⟩
    unfold b__law_rods_1
    simp [hX]
  · refine ⟨max 1 (one - i % 2), p, ?_, by omega, by omega, hp⟩
    have m2 : dMod (.int i) (.int 2) = some (.int (i % 2)) := dMod_int (by decide)
    have mx : dMax [.int 1, .int (one - i % 2)] = some (.int (max 1 (one - i % 2))) := dMax2 _ _
    unfold b__law_rods_1
    simp [hX, m2, mx]
  · obtain ⟨v, p', c1, v0, v1, k⟩ := call_draw p hp 11 (by decide) (by decide)
    refine ⟨30 + v, p', ?_, by omega, by omega, k⟩
    unfold b__law_rods_1
    simp [c1, hX]
  · obtain ⟨v, p', c1, v0, v1, k⟩ := call_draw p hp 40 (by decide) (by decide)
    refine ⟨1 + v, p', ?_, by omega, by omega, k⟩
    unfold b__law_rods_1
    simp [c1, hX]
theorem rd_loop (M N : D) (w : Int) (hw : 0 ≤ w ∧ w < 5) (one : Int) (h1 : 1 ≤ one ∧ one ≤ 40) : ∀ (is : List Int) (p : Src) (xs : List Int) (x6 : Sl), p.Ok → xs.length + is.length ≤ 100 → (∀ x ∈ xs, 1 ≤ x ∧ x ≤ 40) →
    ∃ (ys : List Int) (p' : Src) (y6 : Sl), forL (tgN 6) b__law_rods_1 (is.map .int) [.ml p.l, .fz M, .fz N, .fz (.int w), .fz (.int one), .ml (xs.map .int), x6] = .ok .nx [.ml p'.l, .fz M, .fz N, .fz (.int w), .fz (.int one), .ml (ys.map .int), y6] ∧ ys.length = xs.length + is.length ∧ (∀ x ∈ ys, 1 ≤ x ∧ x ≤ 40) ∧ p'.Ok
  | [], p, xs, x6, hp, _, hx => ⟨xs, p, x6, by simp [forL_nil], rfl, hx, hp⟩
  | i :: is, p, xs, x6, hp, hl, hx => by
    rw [List.length_cons] at hl
    obtain ⟨x, p1, e, x1, x2, k1⟩ := rd_step p hp M N w hw one h1 (xs.map .int) (by rw [List.length_map]; omega) i
    have ea : (xs ++ [x]).map D.int = xs.map .int ++ [.int x] := by simp
    obtain ⟨ys, p', y6, e2, l2, hy, k2⟩ := rd_loop M N w hw one h1 is p1 (xs ++ [x]) (.fz (.int i)) k1 (by rw [List.length_append, List.length_singleton]; omega) (fun z hz => by
      rcases List.mem_append.mp hz with hz | hz
      · exact hx z hz
      · rw [List.mem_singleton] at hz; subst hz; exact ⟨x1, x2⟩)
    refine ⟨ys, p', y6, ?_, by rw [l2, List.length_append, List.length_singleton, List.length_cons]; omega, hy, k2⟩
    rw [ea] at e2
    rw [List.map_cons, forL_cons, tgN_ap, bind_ok]
    show forK _ _ _ (b__law_rods_1 [.ml p.l, .fz M, .fz N, .fz (.int w), .fz (.int one), .ml (xs.map .int), .fz (.int i)]) = _
    rw [e, forK_nx, e2]
theorem rd_p1 (L L1 L2 : List D) (m v u : Int) (c1 : ∀ (st : Env) (c : Nat), st[c]? = some (.ml L) → callO F__law_draw [0] [.io c, .d (.int m)] st = .ok (.fz (.int v)) (st.set c (.ml L1))) (c2 : ∀ (st : Env) (c : Nat), st[c]? = some (.ml L1) → callO F__law_draw [0] [.io c, .d (.int 5)] st = .ok (.fz (.int u)) (st.set c (.ml L2))) :
    putsM [2, 3] (consV (fzM (op2M dAdd (consL (pureM (.int 1)) (consL (frzM (callM F__law_draw [0] (consIO 0 (consA (nameM 1) nilA)))) nilL)))) (consV (callM F__law_draw [0] (consIO 0 (consA (pureM (.int 5)) nilA))) nilV)) [.ml L, .fz (.int m), .un, .un, .un, .un, .un] = .ok .nx [.ml L2, .fz (.int m), .fz (.int (1 + v)), .fz (.int u), .un, .un, .un] := by
  simp [c1, c2]
theorem rd_p2 (L L1 : List D) (a b c : Sl) (v : Int) (c1 : ∀ (st : Env) (c : Nat), st[c]? = some (.ml L) → callO F__law_draw [0] [.io c, .d (.int 40)] st = .ok (.fz (.int v)) (st.set c (.ml L1))) :
    putsM [4, 5] (consV (fzM (op2M dAdd (consL (pureM (.int 1)) (consL (frzM (callM F__law_draw [0] (consIO 0 (consA (pureM (.int 40)) nilA)))) nilL)))) (consV (lstM nilL) nilV)) [.ml L, a, b, c, .un, .un, .un] = .ok .nx [.ml L1, a, b, c, .fz (.int (1 + v)), .ml [], .un] := by
  simp [c1]
theorem eq_rods (p : Src) (h : p.Ok) (m : Nat) (m1 : 1 ≤ m) (m12 : m ≤ 12) : ∃ (ls : List Int) (p' : Src), F__law_rods [.ml p.l, .fz (.int m)] = .ret (.ml (ls.map .int)) [.ml p'.l] ∧ 1 ≤ ls.length ∧ ls.length ≤ m ∧ (∀ x ∈ ls, 1 ≤ x ∧ x ≤ 40) ∧ p'.Ok := by
  obtain ⟨v, p1, c1, v0, v1, k1⟩ := call_draw p h m (by omega) (by omega)
  obtain ⟨u, p2, c2, u0, u1, k2⟩ := call_draw p1 k1 5 (by decide) (by decide)
  obtain ⟨t, p3, c3, t0, t1, k3⟩ := call_draw p2 k2 40 (by decide) (by decide)
  obtain ⟨n, hn⟩ : ∃ n : Nat, 1 + v = n := ⟨(1 + v).toNat, by omega⟩
  obtain ⟨ys, p4, y6, e, l, hy, k4⟩ := rd_loop (.int m) (.int n) u ⟨u0, u1⟩ (1 + t) ⟨by omega, by omega⟩ ((List.range n).map fun i : Nat => (i : Int)) p3 [] .un k3 (by rw [List.length_map, List.length_range, List.length_nil]; omega) (fun _ h => (List.not_mem_nil h).elim)
  rw [List.length_map, List.length_range, List.length_nil] at l
  refine ⟨ys, p4, ?_, by omega, by omega, hy, k4⟩
  have g1 := rd_p1 p.l p1.l p2.l m v u c1 c2
  rw [hn] at g1
  have g2 := rd_p2 p2.l p3.l (.fz (.int m)) (.fz (.int n)) (.fz (.int u)) t c3
  have hr : rng1M (consN 2 nilL) [.ml p3.l, .fz (.int m), .fz (.int n), .fz (.int u), .fz (.int (1 + t)), .ml [], .un] = .ok (((List.range n).map fun i : Nat => (i : Int)).map .int) [.ml p3.l, .fz (.int m), .fz (.int n), .fz (.int u), .fz (.int (1 + t)), .ml [], .un] := rng1A (by rfl) (by omega)
  unfold F__law_rods m__law_rods
  rw [bodyF_ap]
  show bodyO [0] (seqM _ _ [.ml p.l, .fz (.int m), .un, .un, .un, .un, .un]) = _
  rw [seqM_ap, g1, seqO_nx, seqM_ap, g2, seqO_nx, seqM_ap, forM_ap, hr, bind_ok]
  have e : forL (tgN 6) b__law_rods_1 (((List.range n).map fun i : Nat => (i : Int)).map .int) [.ml p3.l, .fz (.int m), .fz (.int n), .fz (.int u), .fz (.int (1 + t)), .ml [], .un] = _ := e
  rw [e, seqO_nx]
  rfl
theorem call_rods (p : Src) (h : p.Ok) (m : Nat) (m1 : 1 ≤ m) (m12 : m ≤ 12) : ∃ (ls : List Int) (p' : Src), (∀ (st : Env) (c : Nat), st[c]? = some (.ml p.l) → callO F__law_rods [0] [.io c, .d (.int m)] st = .ok (.ml (ls.map .int)) (st.set c (.ml p'.l))) ∧ 1 ≤ ls.length ∧ ls.length ≤ m ∧ (∀ x ∈ ls, 1 ≤ x ∧ x ≤ 40) ∧ p'.Ok := by
  obtain ⟨ls, p', e, h1⟩ := eq_rods p h m m1 m12
  exact ⟨ls, p', fun st c hc => callO_io1 hc rfl e, h1⟩
end Rz
namespace Rz
open PySem PySem.Spec PyProof.Rows L2
@[simp] theorem excM_ap {α : Type} (x : Ex) (st : Env) : (excM x : M α) st = .exc x st := rfl
@[simp] theorem bind_xx {α β : Type} (x : Ex) (st : Env) (f : α → M β) : (Out.exc x st : Out α).bind f = .exc x st := rfl
@[simp] theorem seqO_xx (x : Ex) (st : Env) (b : M Fl) : seqO (.exc x st) b = .exc x st := rfl
@[simp] theorem bodyO_xx (io : List Nat) (x : Ex) (st : Env) : bodyO io (.exc x st) = .exc x (outs io st) := rfl
@[simp] theorem frzO_xx (x : Ex) (st : Env) : frzO (.exc x st) = .exc x st := rfl
theorem callO_x {f : Env → Res} {ds : List D} {st : Env} {x : Ex} (h : f (ds.map .fz) = .exc x []) : callO f [] (ds.map Ag.d) st = .exc x st := by
  unfold callO
  rw [if_pos (agsOk_d st ds []), List.map_map]
  have : (slOf st ∘ Ag.d) = Sl.fz := rfl
  rw [this, h]
  dsimp only
  have h0 : ([] : Env).length = ([] : List Nat).length := rfl
  rw [if_pos h0, backs_d]
def nIns : D → Bool
  | .ins _ _ => false
  | _ => true
end Rz
namespace Rz
open PySem PySem.Spec PyProof.Rows L2
def isLn : D → Bool
  | .int i => decide (1 ≤ i ∧ i ≤ 40)
  | _ => false
def nIn1 : D → Bool
  | .ins _ _ => false
  | _ => true
def isIn1 : D → Bool
  | .int _ => true
  | _ => false
theorem isi_int1 (x : D) (h : nIn1 x = true) : dIsi (isB "int" [0]) x = some (.bl (match x with | .int _ => true | .bl _ => true | _ => false)) ∧ dIsi (isB "bool" [0]) x = some (.bl (match x with | .bl _ => true | _ => false)) := by
  cases x <;> first | (cases h; done) | exact ⟨rfl, rfl⟩
theorem call_int1 (x : D) (h : nIn1 x = true) (st : Env) : callO F_is_integer [] [.d x] st = .ok (.fz (.bl (isIn1 x))) st := by
  refine callO_d1 (?_ : F_is_integer [.fz x] = .ret (.fz (.bl (isIn1 x))) []) rfl
  obtain ⟨h1, h2⟩ := isi_int1 x h
  unfold F_is_integer m_is_integer
  cases x with
  | ins c fs => cases h
  | int i => simp [h1, h2, isIn1]
  | bl b => simp [h1, h2, isIn1]
  | _ => simp [h1, isIn1]
theorem call_rod1 (x : D) (h : nIn1 x = true) (st : Env) : callO F_Rule_is_rod [] [.d x] st = .ok (.fz (.bl (isLn x))) st := by
  refine callO_d1 (?_ : F_Rule_is_rod [.fz x] = .ret (.fz (.bl (isLn x))) []) rfl
  have c := call_int1 x h
  unfold F_Rule_is_rod m_Rule_is_rod
  cases x with
  | ins c fs => cases h
  | int i =>
    by_cases h1 : 1 ≤ i <;> by_cases h2 : i ≤ 40 <;> simp [c, isIn1, isLn, h1, h2]
  | _ => simp [c, isIn1, isLn]
theorem call_len1 (x : D) (h : nIn1 x = true) (st : Env) : callO F__law_is_length [] [.d x] st = .ok (.fz (.bl (isLn x))) st := by
  refine callO_d1 (?_ : F__law_is_length [.fz x] = .ret (.fz (.bl (isLn x))) []) rfl
  obtain ⟨h1, h2⟩ := isi_int1 x h
  unfold F__law_is_length m__law_is_length
  cases x with
  | ins c fs => cases h
  | int i =>
    have e : decide (1 ≤ i ∧ i ≤ 40) = (decide (0 < i) && decide (i < 41)) := by
      by_cases a : 0 < i <;> by_cases b : i < 41 <;> simp [a, b] <;> omega
    show _ = Res.ret (.fz (.bl (decide (1 ≤ i ∧ i ≤ 40)))) []
    rw [e]
    by_cases a : 0 < i <;> by_cases b : i < 41 <;> simp [h1, h2, a, b]
  | bl b => simp [h1, h2, isLn]
  | _ => simp [h1, isLn]
theorem unfz_map1 : ∀ ds : List D, unfz (ds.map .fz) = some ds
  | [] => rfl
  | d :: ds => by
    show (unfz (ds.map .fz)).map (d :: ·) = _
    rw [unfz_map1 ds]; rfl
theorem forL_exc1 {g : D → M Unit} {mb : M Fl} {ds : List D} {st : Env} {x : Ex} : forK g mb ds (.exc x st) = .exc x st := rfl
theorem ri_b (s0 s1 : Sl) (d : D) (h : nIn1 d = true) : b_Rule___init___Rule_o_1 [s0, s1, .fz d] = if isLn d = true then .ok .nx [s0, s1, .fz d] else .exc ⟨11, []⟩ [s0, s1, .fz d] := by
  have c := call_rod1 d h
  unfold b_Rule___init___Rule_o_1
  cases e : isLn d with
  | true => rw [e] at c; simp [c]
  | false => rw [e] at c; simp [c]
theorem ri_loop (s0 s1 : Sl) : ∀ (ds : List D) (s2 : Sl), (∀ d ∈ ds, nIn1 d = true) → ∃ t, forL (tgN 2) b_Rule___init___Rule_o_1 ds [s0, s1, s2] = if ds.all isLn = true then .ok .nx [s0, s1, t] else .exc ⟨11, []⟩ [s0, s1, t]
  | [], s2, _ => ⟨s2, rfl⟩
  | d :: ds, s2, h => by
    obtain ⟨t, e⟩ := ri_loop s0 s1 ds (.fz d) fun x hx => h x (.tail _ hx)
    have hb := ri_b s0 s1 d (h d (.head _))
    rw [forL_cons, tgN_ap, bind_ok]
    show ∃ t, forK _ _ _ (b_Rule___init___Rule_o_1 [s0, s1, .fz d]) = _
    rw [hb]
    cases hd : isLn d with
    | true =>
      refine ⟨t, ?_⟩
      rw [if_pos rfl, forK_nx, e, List.all_cons, hd, Bool.true_and]
    | false =>
      refine ⟨.fz d, ?_⟩
      rw [List.all_cons, hd]; rfl
def okR (ds : List D) : Bool := decide (1 ≤ ds.length) && decide (ds.length ≤ 12) && ds.all isLn
def fsR (ds : List D) : List (Str × D) := [("lengths", .tup ds)]
theorem ri_count (s0 : Sl) (ds : List D) : (iteM (notM (tstM (chainM dLe dLe (consL (pureM (.int 1)) (consL (fnM dLen (consN 1 nilL)) nilL)) (pureM (.int 12))))) (excM ⟨11, []⟩) nxM) [s0, .fz (.tup ds), .un] = if (decide (1 ≤ ds.length) && decide (ds.length ≤ 12)) = true then .ok .nx [s0, .fz (.tup ds), .un] else .exc ⟨11, []⟩ [s0, .fz (.tup ds), .un] := by
  have hl : dLen [.tup ds] = some (.int (ds.length : Nat)) := rfl
  obtain ⟨n, hn⟩ : ∃ n : Int, (ds.length : Int) = n := ⟨_, rfl⟩
  have e1 : decide (1 ≤ ds.length) = decide (1 ≤ n) := decide_eq_decide.mpr (by omega)
  have e2 : decide (ds.length ≤ 12) = decide (n ≤ 12) := decide_eq_decide.mpr (by omega)
  rw [e1, e2]
  rw [hn] at hl
  generalize D.tup ds = T at *
  by_cases h1 : 1 ≤ n <;> by_cases h2 : n ≤ 12 <;> simp [hl, h1, h2]
theorem ri_fld (ds : List D) (t : Sl) : fldSet csAll 0 "lengths" (nameM 1) [.mi 0 [], .fz (.tup ds), t] = .ok .nx [.mi 0 (fsR ds), .fz (.tup ds), t] := rfl
theorem eq_init1 (ds : List D) (h : ∀ d ∈ ds, nIn1 d = true) (st : Env) : newOutX 0 (F_Rule___init___Rule_o (.mi 0 [] :: ds.map .fz)) st = if okR ds = true then .ok (.mi 0 (fsR ds)) st else .exc ⟨11, []⟩ st := by
  unfold F_Rule___init___Rule_o
  show newOutX 0 (match unfz (ds.map .fz) with | some ds => bodyF 3 [0] m_Rule___init___Rule_o [.mi 0 [], .fz (.tup ds)] | none => .bad) st = _
  rw [unfz_map1]
  show newOutX 0 (bodyF 3 [0] m_Rule___init___Rule_o [.mi 0 [], .fz (.tup ds)]) st = _
  unfold m_Rule___init___Rule_o
  rw [bodyF_ap]
  show newOutX 0 (bodyO [0] (seqM _ _ [.mi 0 [], .fz (.tup ds), .un])) st = _
  rw [seqM_ap, ri_count]
  unfold okR
  cases hc : (decide (1 ≤ ds.length) && decide (ds.length ≤ 12)) with
  | false => rfl
  | true =>
    rw [if_pos rfl, seqO_nx, seqM_ap, forM_ap]
    have hi : itM (nameM 1) [.mi 0 [], .fz (.tup ds), .un] = .ok ds [.mi 0 [], .fz (.tup ds), .un] := rfl
    obtain ⟨t, e⟩ := ri_loop (.mi 0 []) (.fz (.tup ds)) ds .un h
    rw [hi, bind_ok, e]
    cases ha : ds.all isLn with
    | false => rfl
    | true =>
      rw [if_pos rfl, seqO_nx, ri_fld]
      rfl
end Rz
namespace Rz
open PySem PySem.Spec PyProof.Rows L2
theorem mk0 (st : Env) : makeX 0 F_Rule___init___Rule_o nilL nilL st = .exc ⟨11, []⟩ st := by
  have e := eq_init1 [] (fun _ h => nomatch h) st
  exact e
theorem mkX_of {ds : List D} {me : Rz.M (List D)} {st st' : Env} (h : ∀ d ∈ ds, nIn1 d = true) (e : me st = .ok ds st') : makeX 0 F_Rule___init___Rule_o me (pureM []) st = if okR ds = true then .ok (.mi 0 (fsR ds)) st' else .exc ⟨11, []⟩ st' := by
  unfold makeX
  rw [bindM_ap, e, bind_ok, bindM_ap]
  show newOutX 0 (F_Rule___init___Rule_o (.mi 0 [] :: (ds ++ []).map .fz)) st' = _
  rw [List.append_nil, eq_init1 ds h]
def outR (ds : List D) : Res := if okR ds = true then .ret (.mi 0 (fsR ds)) [] else .exc ⟨11, []⟩ []
theorem ret_of {m : Rz.M Sl} {st : Env} {ds : List D} (h : m st = if okR ds = true then .ok (.mi 0 (fsR ds)) st else .exc ⟨11, []⟩ st) : bodyO [] (retM m st) = outR ds := by
  rw [retM_ap, h]
  unfold outR
  cases okR ds <;> rfl
abbrev tL (n : Int) : Rz.M Bool := tstM (op2M dEq (consL (fnM dLen (consN 0 nilL)) (consL (pureM (.int n)) nilL)))
theorem tl_y (W : D) (n : Int) (A : Rz.M Fl) (h : dLen [W] = some (.int n)) : iteM (tL n) A nxM [.fz W] = A [.fz W] := by
  simp [h]
theorem tl_n (W : D) (n k : Int) (A : Rz.M Fl) (h : dLen [W] = some (.int k)) (hk : k ≠ n) : iteM (tL n) A nxM [.fz W] = .ok .nx [.fz W] := by
  simp [h, hk]
theorem seq_ret {m : Rz.M Sl} {b : Rz.M Fl} {st : Env} : bodyO [] (seqO (retM m st) b) = bodyO [] (retM m st) := by
  rw [retM_ap]
  cases m st <;> rfl
theorem eq_lrule1 (ds : List D) (hl : ds.length ≤ 6) (h : ∀ d ∈ ds, nIn1 d = true) : F__law_rule [.fz (.lst ds)] = outR ds := by
  have hd : dLen [.lst ds] = some (.int (ds.length : Nat)) := rfl
  have ix : ∀ (n : Nat) (d : D), ds[n]? = some d → dIx (.lst ds) (.int (n : Nat)) = some d := fun n d q => dIx_lstN q
  unfold F__law_rule m__law_rule
  rw [bodyF_ap]
  show bodyO [] (seqM _ _ [.fz (.lst ds)]) = _
  match ds, hl, h, hd, ix with
  | [], _, h, hd, ix =>
    rw [seqM_ap, tl_y _ 0 _ hd, seq_ret]
    exact ret_of (mk0 _)
  | [a], _, h, hd, ix =>
    rw [seqM_ap, tl_n _ 0 1 _ hd (by decide), seqO_nx, seqM_ap, tl_y _ 1 _ hd, seq_ret]
    have i0 := ix 0 a rfl
    refine ret_of (mkX_of h ?_)
    generalize D.lst [a] = W at *
    simp at i0
    simp [i0]
  | [a, b], _, h, hd, ix =>
    rw [seqM_ap, tl_n _ 0 2 _ hd (by decide), seqO_nx, seqM_ap, tl_n _ 1 2 _ hd (by decide), seqO_nx, seqM_ap, tl_y _ 2 _ hd, seq_ret]
    have i0 := ix 0 a rfl
    have i1 := ix 1 b rfl
    refine ret_of (mkX_of h ?_)
    generalize D.lst [a, b] = W at *
    simp at i0 i1
    simp [i0, i1]
  | [a, b, c], _, h, hd, ix =>
    rw [seqM_ap, tl_n _ 0 3 _ hd (by decide), seqO_nx, seqM_ap, tl_n _ 1 3 _ hd (by decide), seqO_nx, seqM_ap, tl_n _ 2 3 _ hd (by decide), seqO_nx, seqM_ap, tl_y _ 3 _ hd, seq_ret]
    have i0 := ix 0 a rfl
    have i1 := ix 1 b rfl
    have i2 := ix 2 c rfl
    refine ret_of (mkX_of h ?_)
    generalize D.lst [a, b, c] = W at *
    simp at i0 i1 i2
    simp [i0, i1, i2]
  | [a, b, c, d], _, h, hd, ix =>
    rw [seqM_ap, tl_n _ 0 4 _ hd (by decide), seqO_nx, seqM_ap, tl_n _ 1 4 _ hd (by decide), seqO_nx, seqM_ap, tl_n _ 2 4 _ hd (by decide), seqO_nx, seqM_ap, tl_n _ 3 4 _ hd (by decide), seqO_nx, seqM_ap, tl_y _ 4 _ hd, seq_ret]
    have i0 := ix 0 a rfl
    have i1 := ix 1 b rfl
    have i2 := ix 2 c rfl
    have i3 := ix 3 d rfl
    refine ret_of (mkX_of h ?_)
    generalize D.lst [a, b, c, d] = W at *
    simp at i0 i1 i2 i3
    simp [i0, i1, i2, i3]
  | [a, b, c, d, e], _, h, hd, ix =>
    rw [seqM_ap, tl_n _ 0 5 _ hd (by decide), seqO_nx, seqM_ap, tl_n _ 1 5 _ hd (by decide), seqO_nx, seqM_ap, tl_n _ 2 5 _ hd (by decide), seqO_nx, seqM_ap, tl_n _ 3 5 _ hd (by decide), seqO_nx, seqM_ap, tl_n _ 4 5 _ hd (by decide), seqO_nx, seqM_ap, tl_y _ 5 _ hd, seq_ret]
    have i0 := ix 0 a rfl
    have i1 := ix 1 b rfl
    have i2 := ix 2 c rfl
    have i3 := ix 3 d rfl
    have i4 := ix 4 e rfl
    refine ret_of (mkX_of h ?_)
    generalize D.lst [a, b, c, d, e] = W at *
    simp at i0 i1 i2 i3 i4
    simp [i0, i1, i2, i3, i4]
  | [a, b, c, d, e, f], _, h, hd, ix =>
    rw [seqM_ap, tl_n _ 0 6 _ hd (by decide), seqO_nx, seqM_ap, tl_n _ 1 6 _ hd (by decide), seqO_nx, seqM_ap, tl_n _ 2 6 _ hd (by decide), seqO_nx, seqM_ap, tl_n _ 3 6 _ hd (by decide), seqO_nx, seqM_ap, tl_n _ 4 6 _ hd (by decide), seqO_nx, seqM_ap, tl_n _ 5 6 _ hd (by decide), seqO_nx]
    have i0 := ix 0 a rfl
    have i1 := ix 1 b rfl
    have i2 := ix 2 c rfl
    have i3 := ix 3 d rfl
    have i4 := ix 4 e rfl
    have i5 := ix 5 f rfl
    refine ret_of (mkX_of h ?_)
    generalize D.lst [a, b, c, d, e, f] = W at *
    simp at i0 i1 i2 i3 i4 i5
    simp [i0, i1, i2, i3, i4, i5]
  | a :: b :: c :: d :: e :: f :: g :: xs, hl, _, _, _ => simp at hl
theorem call_lrule1 (ds : List D) (hl : ds.length ≤ 6) (h : ∀ d ∈ ds, nIn1 d = true) (st : Env) : callO F__law_rule [] [.d (.lst ds)] st = if okR ds = true then .ok (.mi 0 (fsR ds)) st else .exc ⟨11, []⟩ st := by
  have e := eq_lrule1 ds hl h
  unfold outR at e
  cases ho : okR ds with
  | true => rw [ho, if_pos rfl] at e; exact callO_d1 e rfl
  | false => rw [ho] at e; exact callO_x (ds := [.lst ds]) e
def sRE : List Nat := [82, 111, 100, 115, 69, 114, 114, 111, 114]
def sVal : List Nat := [118, 97, 108, 117, 101]
def rlD (ds : List D) : D := .ins 0 (fsR ds)
def toldD (ds : List D) : D := if okR ds = true then .tup [.str sVal, rlD ds] else .tup [.str sRE]
theorem lam_R {s : List Nat} {me : Rz.M D} {st st' : Env} (h : me st = .exc ⟨11, []⟩ st') : lamA l__law_outcome s me st = .ok (.fz (.tup [.str sRE])) st' := by
  unfold lamA
  rw [h]
  rfl
theorem lam_V {s : List Nat} {me : Rz.M D} {st st' : Env} {d : D} (h : me st = .ok d st') : lamA l__law_outcome s me st = .ok (.fz (.tup [.str s, d])) st' := by
  unfold lamA
  rw [h]
theorem told_of {me : Rz.M Sl} {st st' : Env} {ds : List D} (h : me st = if okR ds = true then .ok (.mi 0 (fsR ds)) st' else .exc ⟨11, []⟩ st') : lamA l__law_outcome [118, 97, 108, 117, 101] (frzM me) st = .ok (.fz (toldD ds)) st' := by
  unfold toldD
  cases ho : okR ds with
  | true =>
    rw [ho, if_pos rfl] at h
    rw [if_pos rfl]
    exact lam_V (by rw [frzM_ap, h]; rfl)
  | false =>
    rw [ho] at h
    rw [if_neg (by simp)]
    exact lam_R (by rw [frzM_ap, h]; rfl)
end Rz
namespace Rz
open PySem PySem.Spec PyProof.Rows L2
theorem strsI1 (L : List Int) : strsL (L.map D.int) = true := by
  induction L with
  | nil => rfl
  | cons x L ih =>
    rw [List.map_cons]
    show (true && strsL (L.map D.int)) = true
    rw [ih]; rfl
theorem ints_plain1 (L : List Int) : plainL (L.map D.int) = true := by
  induction L with
  | nil => rfl
  | cons x L ih => rw [List.map_cons]; show (true && plainL (L.map D.int)) = true; rw [ih]; rfl
theorem ints_dep1 (L : List Int) : depL (L.map D.int) = 0 := by
  induction L with
  | nil => rfl
  | cons x L ih => rw [List.map_cons]; show max 0 (depL (L.map D.int)) = 0; rw [ih]; rfl
theorem dNe_nil1 (L : List Int) : dNe (.lst (L.map .int)) (.lst []) = some (.bl (!L.isEmpty)) := by
  have h1 : (D.lst (L.map D.int)).okEq = true := by
    show (plainL (L.map D.int) && strsL (L.map D.int) && decide (depL (L.map D.int) + 1 ≤ 64)) = true
    rw [ints_plain1, strsI1, ints_dep1]; rfl
  show (if (D.lst (L.map D.int)).okEq && (D.lst []).okEq then some (PyData.eqv (D.lst (L.map D.int)).py (D.lst []).py) else none).map _ = _
  rw [h1, if_pos (by rfl)]
  cases L <;> rfl
theorem call_equalN (A : D) (h : ∃ s, dReprN [A] = some (.str s)) (st : Env) : callO F__law_is_equal [] [.d A, .d A] st = .ok (.fz (.bl true)) st := by
  obtain ⟨s, hs⟩ := h
  refine callO_d2 (?_ : F__law_is_equal [.fz A, .fz A] = .ret (.fz (.bl true)) []) rfl
  unfold F__law_is_equal m__law_is_equal
  simp [hs]
abbrev irE (W : D) (s1 s2 s4 s5 s6 : Sl) : Env := [.fz W, s1, s2, .un, s4, s5, s6]
theorem ir1 (W : D) (kp : List Nat) (hk : dReprN [W] = some (.str kp)) : setM 1 (fnM dReprN (consN 0 nilL)) (irE W .un .un .un .un .un) = .ok .nx (irE W (.fz (.str kp)) .un .un .un .un) := by
  simp [hk]
theorem ir2 (ds : List D) (hl : ds.length ≤ 6) (h : ∀ d ∈ ds, nIn1 d = true) (s1 : Sl) : putM 2 (lamA l__law_outcome [118, 97, 108, 117, 101] (frzM (callM F__law_rule [] (consA (nameM 0) nilA)))) (irE (.lst ds) s1 .un .un .un .un) = .ok .nx (irE (.lst ds) s1 (.fz (toldD ds)) .un .un .un) := by
  have c := call_lrule1 ds hl h
  have e : callM F__law_rule [] (consA (nameM 0) nilA) (irE (.lst ds) s1 .un .un .un .un) = if okR ds = true then .ok (.mi 0 (fsR ds)) (irE (.lst ds) s1 .un .un .un .un) else .exc ⟨11, []⟩ (irE (.lst ds) s1 .un .un .un .un) := by
    generalize D.lst ds = W at *
    simp [c]
  rw [putM_ap, told_of e]
  rfl
theorem ir_c (ds : List D) (hl : ds.length ≤ 1000) (h : ∀ d ∈ ds, nIn1 d = true) (s1 s2 s4 s5 s6 : Sl) : c__law_is_right_1 (irE (.lst ds) s1 s2 s4 s5 s6) = .ok (.ml (((ds.filter fun d => !isLn d).map fun _ => (1 : Int)).map .int)) (irE (.lst ds) s1 s2 s4 s5 s6) := by
  have e2 : ((ds.filter fun d => !isLn d).map fun _ => (1 : Int)).map D.int = (ds.filter fun d => !isLn d).map fun _ => .int 1 := by rw [List.map_map]; rfl
  rw [e2]
  unfold c__law_is_right_1
  refine lcM_gen (xs := ds) id (fun d => !isLn d) (fun _ => D.int 1) (fun d => [.fz (.lst ds), s1, s2, .fz d, s4, s5, s6]) (by rw [List.map_id]; rfl) rfl rfl (by omega) (fun _ _ => rfl) (fun _ _ => rfl) (fun d hd => ?_) (fun d hd _ => rfl)
  have c := call_len1 d (h d hd)
  generalize D.lst ds = W
  simp [c]
theorem ok_bad (ds : List D) (hl : ds.length ≤ 6) : okR ds = !(ds.isEmpty || !((ds.filter fun d => !isLn d).map fun _ => (1 : Int)).isEmpty) := by
  unfold okR
  rw [decide_eq_true (show ds.length ≤ 12 by omega), Bool.and_true]
  cases ds with
  | nil => rfl
  | cons d ds =>
    rw [decide_eq_true (show 1 ≤ (d :: ds).length by simp), Bool.true_and, List.isEmpty_cons, Bool.false_or, Bool.not_not]
    generalize d :: ds = es
    rw [Bool.eq_iff_iff, List.all_eq_true, List.isEmpty_iff, List.map_eq_nil_iff, List.filter_eq_nil_iff]
    constructor
    · intro q x hx z; rw [q x hx] at z; cases z
    · intro q x hx
      have := q x hx
      cases e : isLn x with
      | true => rfl
      | false => rw [e] at this; exact absurd rfl this
theorem told_eq (ds : List D) (ho : okR ds = false) : dEq (toldD ds) (.tup [.str [82, 111, 100, 115, 69, 114, 114, 111, 114]]) = some (.bl true) := by
  unfold toldD
  rw [ho]
  rfl
theorem ir3b (ds : List D) (hl : ds.length ≤ 6) (h : ∀ d ∈ ds, nIn1 d = true) (kp : List Nat) (hk : dReprN [.lst ds] = some (.str kp)) (ho : okR ds = false) : ∃ st,
    (iteM (orM (tstM (op2M dEqE (consN 0 (consL (frzM (lstM nilL)) nilL)))) (tstM (op2M dNe (consL (frzM c__law_is_right_1) (consL (frzM (lstM nilL)) nilL))))) (retD (andV (op2M dEq (consN 2 (consL (tupM (consL (pureM (.str [82, 111, 100, 115, 69, 114, 114, 111, 114])) nilL)) nilL))) (op2M dEq (consL (fnM dReprN (consN 0 nilL)) (consN 1 nilL))))) nxM) (irE (.lst ds) (.fz (.str kp)) (.fz (toldD ds)) .un .un .un) = .ok (.rt (.fz (.bl true))) st := by
  have ht := told_eq ds ho
  have hc := ir_c ds (by omega) h (.fz (.str kp)) (.fz (toldD ds)) .un .un .un
  have hn := dNe_nil1 ((ds.filter fun d => !isLn d).map fun _ => (1 : Int))
  have hb := ok_bad ds hl
  rw [ho] at hb
  have hq : dEqE (.lst ds) (.lst []) = some (.bl ds.isEmpty) := by cases ds <;> rfl
  refine ⟨irE (.lst ds) (.fz (.str kp)) (.fz (toldD ds)) .un .un .un, ?_⟩
  generalize ((ds.filter fun d => !isLn d).map fun _ => (1 : Int)).isEmpty = b2 at *
  generalize ((ds.filter fun d => !isLn d).map fun _ => (1 : Int)).map D.int = Y at *
  generalize toldD ds = T at *
  generalize ds.isEmpty = b1 at *
  generalize D.lst ds = W at *
  generalize c__law_is_right_1 = CC at *
  cases b1 with
  | true => simp [hq, ht, hk, Sl.toD]
  | false =>
    cases b2 with
    | true => cases hb
    | false => simp [hq, hc, hn, ht, hk, Sl.toD]
theorem ir3g (ds : List D) (hl : ds.length ≤ 6) (h : ∀ d ∈ ds, nIn1 d = true) (s1 s2 : Sl) (ho : okR ds = true) (A : Rz.M Fl) :
    (iteM (orM (tstM (op2M dEqE (consN 0 (consL (frzM (lstM nilL)) nilL)))) (tstM (op2M dNe (consL (frzM c__law_is_right_1) (consL (frzM (lstM nilL)) nilL))))) A nxM) (irE (.lst ds) s1 s2 .un .un .un) = .ok .nx (irE (.lst ds) s1 s2 .un .un .un) := by
  have hc := ir_c ds (by omega) h s1 s2 .un .un .un
  have hn := dNe_nil1 ((ds.filter fun d => !isLn d).map fun _ => (1 : Int))
  have hb := ok_bad ds hl
  rw [ho] at hb
  have hq : dEqE (.lst ds) (.lst []) = some (.bl ds.isEmpty) := by cases ds <;> rfl
  generalize ((ds.filter fun d => !isLn d).map fun _ => (1 : Int)).isEmpty = b2 at *
  generalize ((ds.filter fun d => !isLn d).map fun _ => (1 : Int)).map D.int = Y at *
  generalize ds.isEmpty = b1 at *
  generalize D.lst ds = W at *
  generalize c__law_is_right_1 = CC at *
  cases b1 with
  | true => cases hb
  | false =>
    cases b2 with
    | false => cases hb
    | true => simp [hq, hc, hn, Sl.toD]
theorem prop_rods1 (ds : List D) (m : Rz.M D) (st st' : Env) (e : m st = .ok (rlD ds) st') : propM [0, 1, 2, 3] fp_rods m st = .ok (.ml ds) st' := by
  have hr : F_Rule_rods [.fz (rlD ds)] = .ret (.ml ds) [] := by
    have hd : dFld csAll "lengths" (rlD ds) = some (.tup ds) := rfl
    have hl : dListS [.tup ds] = some (.ml ds) := rfl
    generalize rlD ds = RD at *
    generalize D.tup ds = TL at *
    unfold F_Rule_rods m_Rule_rods
    simp [hd, hl]
  rw [propM_ap, e, bind_ok]
  show (if ([0, 1, 2, 3] : List Nat).contains 0 then (fun st => match callO (fp_rods 0) [] [.d (.ins 0 (fsR ds))] st with | .ok v st' => Out.ok v st' | _ => .bad) else badM) st' = _
  rw [if_pos (show ([0, 1, 2, 3] : List Nat).contains 0 = true from rfl)]
  show (match callO F_Rule_rods [] [.d (rlD ds)] st' with | .ok v st' => Out.ok v st' | _ => .bad) = _
  rw [show callO F_Rule_rods [] [.d (rlD ds)] st' = .ok (.ml ds) st' from callO_d1 hr rfl]
theorem prop_total1 (ls : List Int) (m : Rz.M D) (st st' : Env) (e : m st = .ok (rlD (ls.map .int)) st') : propM [0, 1, 2, 3] fp_total m st = .ok (.fz (.int ls.sum)) st' := by
  have hr : F_Rule_total [.fz (rlD (ls.map .int))] = .ret (.fz (.int ls.sum)) [] := by
    have hd : dFld csAll "lengths" (rlD (ls.map .int)) = some (.tup (ls.map .int)) := rfl
    have hl : dSum [.tup (ls.map .int)] = some (.int ls.sum) := by
      show (intsOf (ls.map D.int)).map _ = _
      rw [intsOf_map]; rfl
    generalize rlD (ls.map .int) = RD at *
    generalize D.tup (ls.map .int) = TL at *
    unfold F_Rule_total m_Rule_total
    simp [hd, hl]
  rw [propM_ap, e, bind_ok]
  show (if ([0, 1, 2, 3] : List Nat).contains 0 then (fun st => match callO (fp_total 0) [] [.d (.ins 0 (fsR (ls.map .int)))] st with | .ok v st' => Out.ok v st' | _ => .bad) else badM) st' = _
  rw [if_pos (show ([0, 1, 2, 3] : List Nat).contains 0 = true from rfl)]
  show (match callO F_Rule_total [] [.d (rlD (ls.map .int))] st' with | .ok v st' => Out.ok v st' | _ => .bad) = _
  rw [show callO F_Rule_total [] [.d (rlD (ls.map .int))] st' = .ok (.fz (.int ls.sum)) st' from callO_d1 hr rfl]
theorem meth_opt1 (ds : List D) (st : Env) (h : st[4]? = some (.fz (rlD ds))) : methM [0, 1, 2, 3] "options" fm_options [] (nameM 4) nilA st = .ok (.md []) st := by
  have hc : ∀ st, callO (fm_options 0) [] [.d (.ins 0 (fsR ds))] st = .ok (.md []) st := fun st => callO_d1 (rfl : F_Rule_options [.fz (.ins 0 (fsR ds))] = .ret (.md []) []) rfl
  have hm : ((0 : Nat) = 0 ∨ (0 : Nat) = 1 ∨ (0 : Nat) = 2 ∨ (0 : Nat) = 3) ∧ noFld "options" (fsR ds) = true := ⟨.inl rfl, rfl⟩
  unfold rlD at h
  generalize fsR ds = FS at *
  simp [h, hm.2, hc]
theorem ir4 (ds : List D) (s1 : Sl) : (iteM (orM (tstM (op2M dNe (consL (op2M dIx (consN 2 (consL (pureM (.int 0)) nilL))) (consL (pureM (.str [118, 97, 108, 117, 101])) nilL)))) (notM (truM (op1M (dIsi (isC [0, 1, 2, 3] [])) (consL (op2M dIx (consN 2 (consL (pureM (.int 1)) nilL))) nilL))))) (retD (pureM (.bl false))) nxM) (irE (.lst ds) s1 (.fz (.tup [.str sVal, rlD ds])) .un .un .un) = .ok .nx (irE (.lst ds) s1 (.fz (.tup [.str sVal, rlD ds])) .un .un .un) := by
  have h0 : dIx (.tup [.str sVal, rlD ds]) (.int 0) = some (.str [118, 97, 108, 117, 101]) := rfl
  have h1 : dIx (.tup [.str sVal, rlD ds]) (.int 1) = some (rlD ds) := rfl
  have h2 : dIsi (isC [0, 1, 2, 3] []) (rlD ds) = some (.bl true) := rfl
  generalize D.tup [.str sVal, rlD ds] = T at *
  generalize rlD ds = RD at *
  generalize D.lst ds = W at *
  simp [h0, h1, h2]
theorem ir5 (ds : List D) (s1 : Sl) : setM 4 (op2M dIx (consN 2 (consL (pureM (.int 1)) nilL))) (irE (.lst ds) s1 (.fz (.tup [.str sVal, rlD ds])) .un .un .un) = .ok .nx (irE (.lst ds) s1 (.fz (.tup [.str sVal, rlD ds])) (.fz (rlD ds)) .un .un) := by
  have h1 : dIx (.tup [.str sVal, rlD ds]) (.int 1) = some (rlD ds) := rfl
  generalize D.tup [.str sVal, rlD ds] = T at *
  generalize rlD ds = RD at *
  generalize D.lst ds = W at *
  simp [h1]
theorem ir6 (ls : List Int) (W T : D) (s1 : Sl) : putM 5 (lstM (consL (frzM (propM [0, 1, 2, 3] fp_rods (nameM 4))) (consL (frzM (propM [0, 1, 2, 3] fp_total (nameM 4))) (consL (frzM (methM [0, 1, 2, 3] "options" fm_options [] (nameM 4) nilA)) (consL (selfM [0] 4) nilL))))) (irE W s1 (.fz T) (.fz (rlD (ls.map .int))) .un .un) = .ok .nx (irE W s1 (.fz T) (.fz (rlD (ls.map .int))) (.ml [.lst (ls.map .int), .int ls.sum, .dct [], .bl true]) .un) := by
  have e1 := prop_rods1 (ls.map .int) (nameM 4) (irE W s1 (.fz T) (.fz (rlD (ls.map .int))) .un .un) _ rfl
  have e2 := prop_total1 ls (nameM 4) (irE W s1 (.fz T) (.fz (rlD (ls.map .int))) .un .un) _ rfl
  have e3 := meth_opt1 (ls.map .int) (irE W s1 (.fz T) (.fz (rlD (ls.map .int))) .un .un) rfl
  have e4 : selfM [0] 4 (irE W s1 (.fz T) (.fz (rlD (ls.map .int))) .un .un) = .ok (.bl true) (irE W s1 (.fz T) (.fz (rlD (ls.map .int))) .un .un) := rfl
  generalize propM [0, 1, 2, 3] fp_rods (nameM 4) = P1 at *
  generalize propM [0, 1, 2, 3] fp_total (nameM 4) = P2 at *
  generalize methM [0, 1, 2, 3] "options" fm_options [] (nameM 4) nilA = P3 at *
  generalize (selfM [0] 4) = P4 at *
  generalize rlD (ls.map .int) = RD at *
  generalize ls.map D.int = LL at *
  simp [e1, e2, e3, e4, Sl.toD]
theorem ir7 (W T RD : D) (s1 : Sl) (n : Int) (hs : dSum [W] = some (.int n)) (ce : ∀ st, callO F__law_is_equal [] [.d (.lst [W, .int n, .dct [], .bl true]), .d (.lst [W, .int n, .dct [], .bl true])] st = .ok (.fz (.bl true)) st) (hi : dIsi (isO (isC [1, 3] [0]) (isC [2, 3] [0])) RD = some (.bl false)) :
    (iteM (orM (notM (truM (frzM (callM F__law_is_equal [] (consA (nameM 5) (consA (frzM (lstM (consL (nameM 0) (consL (fnM dSum (consN 0 nilL)) (consL (frzM (pureM (.md []))) (consL (pureM (.bl true)) nilL)))))) nilA)))))) (truM (op1M (dIsi (isO (isC [1, 3] [0]) (isC [2, 3] [0]))) (consN 4 nilL)))) (retD (pureM (.bl false))) nxM) (irE W s1 (.fz T) (.fz RD) (.ml [W, .int n, .dct [], .bl true]) .un) = .ok .nx (irE W s1 (.fz T) (.fz RD) (.fz (.lst [W, .int n, .dct [], .bl true])) .un) := by
  simp [hs, ce, hi, Sl.toD]
theorem ir8 (ds : List D) (W T : D) (s1 s5 : Sl) : putM 6 (propM [0, 1, 2, 3] fp_rods (nameM 4)) (irE W s1 (.fz T) (.fz (rlD ds)) s5 .un) = .ok .nx (irE W s1 (.fz T) (.fz (rlD ds)) s5 (.ml ds)) := by
  rw [putM_ap, prop_rods1 ds (nameM 4) (irE W s1 (.fz T) (.fz (rlD ds)) s5 .un) _ rfl]; rfl
theorem ir9 (ds : List D) (hl : ds.length < 1000) (W T RD : D) (s1 s5 : Sl) : drpM (appM 6 (pureM (.int 7))) (irE W s1 (.fz T) (.fz RD) s5 (.ml ds)) = .ok .nx (irE W s1 (.fz T) (.fz RD) s5 (.ml (ds ++ [.int 7]))) := by
  have : ds.length < 16777216 := by omega
  simp [this]
theorem ir10 (d : D) (ds : List D) (hl : ds.length < 1000) (W T RD : D) (s1 s5 : Sl) : (bindM (pureM (.int 39)) fun d => bindM ((subM 6 (pureM (.int 0))) d) fun _ => nxM) (irE W s1 (.fz T) (.fz RD) s5 (.ml (d :: ds))) = .ok .nx (irE W s1 (.fz T) (.fz RD) s5 (.ml (.int 39 :: ds))) := by
  have h0 : ixN (ds.length + 1) 0 = some 0 := by
    unfold ixN
    rw [if_pos (by omega), if_pos (by omega)]; rfl
  simp [h0]
theorem ir11 (ls : List Int) (T : D) (kp : List Nat) (s5 s6 : Sl) (hk : dReprN [.lst (ls.map .int)] = some (.str kp)) (hs : dSum [.lst (ls.map .int)] = some (.int ls.sum)) (ce : ∀ st, callO F__law_is_equal [] [.d (.lst [.lst (ls.map .int), .int ls.sum]), .d (.lst [.lst (ls.map .int), .int ls.sum])] st = .ok (.fz (.bl true)) st) : ∃ st,
    retD (andV (frzM (callM F__law_is_equal [] (consA (frzM (lstM (consL (frzM (propM [0, 1, 2, 3] fp_rods (nameM 4))) (consL (frzM (propM [0, 1, 2, 3] fp_total (nameM 4))) nilL)))) (consA (frzM (lstM (consL (nameM 0) (consL (fnM dSum (consN 0 nilL)) nilL)))) nilA)))) (op2M dEq (consL (fnM dReprN (consN 0 nilL)) (consN 1 nilL)))) (irE (.lst (ls.map .int)) (.fz (.str kp)) (.fz T) (.fz (rlD (ls.map .int))) s5 s6) = .ok (.rt (.fz (.bl true))) st := by
  have e1 := prop_rods1 (ls.map .int) (nameM 4) (irE (.lst (ls.map .int)) (.fz (.str kp)) (.fz T) (.fz (rlD (ls.map .int))) s5 s6) _ rfl
  have e2 := prop_total1 ls (nameM 4) (irE (.lst (ls.map .int)) (.fz (.str kp)) (.fz T) (.fz (rlD (ls.map .int))) s5 s6) _ rfl
  refine ⟨irE (.lst (ls.map .int)) (.fz (.str kp)) (.fz T) (.fz (rlD (ls.map .int))) s5 s6, ?_⟩
  generalize propM [0, 1, 2, 3] fp_rods (nameM 4) = P1 at *
  generalize propM [0, 1, 2, 3] fp_total (nameM 4) = P2 at *
  generalize rlD (ls.map .int) = RD at *
  generalize ls.sum = n at *
  generalize ls.map D.int = LL at *
  generalize hW : D.lst LL = W at *
  simp [e1, e2, hs, ce, hk, hW, Sl.toD]
theorem smd_I {i : Int} (h0 : 0 ≤ i) (h1 : i < 500) : SmD (.int i) 0 100 := smd_leaf (by
  show (decide (0 ≤ i ∧ i < 500) || decide (i = -1) || decide (i = 1000000000000)) = true
  rw [decide_eq_true ⟨h0, h1⟩]; rfl)
theorem reprL {xs : List D} {m : Nat} (hm : m ≤ 20) (h : ∀ x ∈ xs, SmD x m 2000) (hl : xs.length ≤ 100) : ∃ s, dReprN [.lst xs] = some (.str s) :=
  reprD_of (smd_row (n := 200100) h (by omega)).2 (by omega) (by decide) (fun _ _ z => by cases z) (fun _ z => by cases z)
theorem sum_rg : ∀ ls : List Int, (∀ x ∈ ls, 1 ≤ x ∧ x ≤ 40) → 0 ≤ ls.sum ∧ ls.sum ≤ 40 * ls.length
  | [], _ => ⟨Int.le_refl _, Int.le_refl _⟩
  | x :: ls, h => by
    have := sum_rg ls fun y hy => h y (.tail _ hy)
    have := h x (.head _)
    rw [List.sum_cons, List.length_cons]; omega
theorem ok_ints {ds : List D} (h : okR ds = true) : ∃ ls : List Int, ds = ls.map .int ∧ (∀ x ∈ ls, 1 ≤ x ∧ x ≤ 40) ∧ ls ≠ [] := by
  unfold okR at h
  rw [Bool.and_eq_true, Bool.and_eq_true, decide_eq_true_eq] at h
  obtain ⟨⟨h1, _⟩, h2⟩ := h
  have key : ∀ es : List D, es.all isLn = true → ∃ ls : List Int, es = ls.map .int ∧ ∀ x ∈ ls, 1 ≤ x ∧ x ≤ 40 := by
    intro es
    induction es with
    | nil => exact fun _ => ⟨[], rfl, fun _ h => nomatch h⟩
    | cons e es ih =>
      intro q
      rw [List.all_cons, Bool.and_eq_true] at q
      obtain ⟨ls, rfl, hls⟩ := ih q.2
      cases e with
      | int i =>
        have hi : 1 ≤ i ∧ i ≤ 40 := of_decide_eq_true q.1
        exact ⟨i :: ls, rfl, fun x hx => by
          rcases List.mem_cons.mp hx with rfl | hx
          · exact hi
          · exact hls x hx⟩
      | _ => cases q.1
  obtain ⟨ls, rfl, hls⟩ := key ds h2
  exact ⟨ls, rfl, hls, by intro z; rw [z] at h1; simp at h1⟩
theorem eq_right1 (ds : List D) (hl : ds.length ≤ 6) (h : ∀ d ∈ ds, nIn1 d = true) (hs : ∀ d ∈ ds, SmD d 2 2000) : F__law_is_right [.fz (.lst ds)] = .ret (.fz (.bl true)) [] := by
  obtain ⟨kp, hk⟩ := reprL (by omega) hs (by omega)
  have g1 := ir1 (.lst ds) kp hk
  have g2 := ir2 ds hl h (.fz (.str kp))
  unfold F__law_is_right m__law_is_right
  rw [bodyF_ap]
  show bodyO [] (seqM _ _ (irE (.lst ds) .un .un .un .un .un)) = _
  rw [seqM_ap, g1, seqO_nx, seqM_ap, g2, seqO_nx, seqM_ap]
  cases ho : okR ds with
  | false =>
    obtain ⟨st, g3⟩ := ir3b ds hl h kp hk ho
    rw [g3, seqO_rt]
    rfl
  | true =>
    have g3 := fun A => ir3g ds hl h (.fz (.str kp)) (.fz (toldD ds)) ho A
    rw [g3, seqO_nx]
    have ht : toldD ds = .tup [.str sVal, rlD ds] := by unfold toldD; rw [if_pos ho]
    rw [ht]
    obtain ⟨ls, rfl, hls, hne⟩ := ok_ints ho
    obtain ⟨s0, s240⟩ := sum_rg ls hls
    rw [List.length_map] at hl
    have hsum : dSum [.lst (ls.map .int)] = some (.int ls.sum) := by
      show (intsOf (ls.map D.int)).map _ = _
      rw [intsOf_map]; rfl
    have hI : ∀ x ∈ ls.map D.int, SmD x 0 100 := fun x hx => by
      obtain ⟨i, hi, rfl⟩ := List.mem_map.mp hx
      have := hls i hi
      exact smd_I (by omega) (by omega)
    have hL : SmD (.lst (ls.map .int)) 1 2000 := (smd_row (n := 2000) hI (by rw [List.length_map]; omega)).2
    have r4 : ∃ s, dReprN [.lst [.lst (ls.map .int), .int ls.sum, .dct [], .bl true]] = some (.str s) := reprL (m := 1) (by omega) (fun x hx => by
      simp only [List.mem_cons, List.not_mem_nil, or_false] at hx
      rcases hx with rfl | rfl | rfl | rfl
      · exact hL
      · exact (smd_I (by omega) (by omega)).mono (by omega) (by omega)
      · exact smd_d0.mono (by omega) (by omega)
      · exact (smd_leaf (d := .bl true) rfl).mono (by omega) (by omega)) (by simp)
    have r2 : ∃ s, dReprN [.lst [.lst (ls.map .int), .int ls.sum]] = some (.str s) := reprL (m := 1) (by omega) (fun x hx => by
      simp only [List.mem_cons, List.not_mem_nil, or_false] at hx
      rcases hx with rfl | rfl
      · exact hL
      · exact (smd_I (by omega) (by omega)).mono (by omega) (by omega)) (by simp)
    have g4 := ir4 (ls.map .int) (.fz (.str kp))
    have g5 := ir5 (ls.map .int) (.fz (.str kp))
    have g6 := ir6 ls (.lst (ls.map .int)) (.tup [.str sVal, rlD (ls.map .int)]) (.fz (.str kp))
    have g7 := ir7 (.lst (ls.map .int)) (.tup [.str sVal, rlD (ls.map .int)]) (rlD (ls.map .int)) (.fz (.str kp)) ls.sum hsum (call_equalN _ r4) rfl
    have g8 := ir8 (ls.map .int) (.lst (ls.map .int)) (.tup [.str sVal, rlD (ls.map .int)]) (.fz (.str kp)) (.fz (.lst [.lst (ls.map .int), .int ls.sum, .dct [], .bl true]))
    have g9 := ir9 (ls.map .int) (by rw [List.length_map]; omega) (.lst (ls.map .int)) (.tup [.str sVal, rlD (ls.map .int)]) (rlD (ls.map .int)) (.fz (.str kp)) (.fz (.lst [.lst (ls.map .int), .int ls.sum, .dct [], .bl true]))
    obtain ⟨y, ys, hy⟩ := List.exists_cons_of_ne_nil hne
    have hap : ls.map D.int ++ [.int 7] = .int y :: (ys.map D.int ++ [.int 7]) := by rw [hy]; rfl
    have hyl : ys.length ≤ 6 := by rw [hy] at hl; simp at hl; omega
    rw [hap] at g9
    have g10 := ir10 (.int y) (ys.map D.int ++ [.int 7]) (by simp; omega) (.lst (ls.map .int)) (.tup [.str sVal, rlD (ls.map .int)]) (rlD (ls.map .int)) (.fz (.str kp)) (.fz (.lst [.lst (ls.map .int), .int ls.sum, .dct [], .bl true]))
    obtain ⟨st, g11⟩ := ir11 ls (.tup [.str sVal, rlD (ls.map .int)]) kp (.fz (.lst [.lst (ls.map .int), .int ls.sum, .dct [], .bl true])) (.ml (.int 39 :: (ys.map D.int ++ [.int 7]))) hk hsum (call_equalN _ r2)
    rw [seqM_ap, g4, seqO_nx, seqM_ap, g5, seqO_nx, seqM_ap, g6, seqO_nx, seqM_ap, g7, seqO_nx, seqM_ap, g8, seqO_nx, seqM_ap, g9, seqO_nx, seqM_ap, g10, seqO_nx, g11]
    rfl
theorem call_right1 (ds : List D) (hl : ds.length ≤ 6) (h : ∀ d ∈ ds, nIn1 d = true) (hs : ∀ d ∈ ds, SmD d 2 2000) (st : Env) : callO F__law_is_right [] [.d (.lst ds)] st = .ok (.fz (.bl true)) st := callO_d1 (eq_right1 ds hl h hs) rfl
end Rz
namespace Rz
open PySem PySem.Spec PyProof.Rows L2
def oddL : List D := [.int 0, .int (-1), .int 41, .int 40, .int 1, .int 42, .int 1000000000000, .int (-40), .bl true, .bl false, .non, .str [49], .str [], .tup [], .tup [.int 1], .lst [], .lst [.int 1], .dct [], .dct [(.int 1, .int 1)], .int 24]
structure OddV (d : D) : Prop where
  n : nIn1 d = true
  s : SmD d 2 2000
theorem odd_int {i : Int} (h : (PyData.int i).showable = true ∧ (PyData.int i).leavesShort 16 = true) : OddV (.int i) :=
  ⟨rfl, ⟨rfl, Nat.zero_le _, h.1, h.2, by simp [pyN, PyData.bulk]⟩⟩
theorem odd_leaf {d : D} (hn : nIn1 d = true) (h : lfB d = true) : OddV d := ⟨hn, (smd_leaf h).mono (by omega) (by omega)⟩
theorem odd_all : ∀ d ∈ oddL, OddV d := by
  have i1 : SmD (.int 1) 0 100 := smd_I (by omega) (by omega)
  have row : ∀ x ∈ [D.int 1], SmD x 0 100 := fun x hx => by rw [List.mem_singleton.mp hx]; exact i1
  intro d hd
  simp only [oddL, List.mem_cons, List.not_mem_nil, or_false] at hd
  rcases hd with rfl | rfl | rfl | rfl | rfl | rfl | rfl | rfl | rfl | rfl | rfl | rfl | rfl | rfl | rfl | rfl | rfl | rfl | rfl | rfl
  · exact odd_leaf rfl (by decide)
  · exact odd_leaf rfl (by decide)
  · exact odd_leaf rfl (by decide)
  · exact odd_leaf rfl (by decide)
  · exact odd_leaf rfl (by decide)
  · exact odd_leaf rfl (by decide)
  · exact odd_leaf rfl (by decide)
  · exact odd_int ⟨by decide +kernel, by decide +kernel⟩
  · exact odd_leaf rfl (by decide)
  · exact odd_leaf rfl (by decide)
  · exact odd_leaf rfl (by decide)
  · exact odd_leaf rfl (by decide)
  · exact odd_leaf rfl (by decide)
  · exact ⟨rfl, ((smd_row (xs := []) (m := 0) (b := 0) (n := 0) (fun _ h => nomatch h) (by simp)).1).mono (by omega) (by omega)⟩
  · exact ⟨rfl, ((smd_row (n := 200) row (by simp)).1).mono (by omega) (by omega)⟩
  · exact ⟨rfl, ((smd_row (xs := []) (m := 0) (b := 0) (n := 0) (fun _ h => nomatch h) (by simp)).2).mono (by omega) (by omega)⟩
  · exact ⟨rfl, ((smd_row (n := 200) row (by simp)).2).mono (by omega) (by omega)⟩
  · exact ⟨rfl, smd_d0.mono (by omega) (by omega)⟩
  · exact ⟨rfl, ⟨rfl, by decide +kernel, by decide +kernel, by decide +kernel, by decide +kernel⟩⟩
  · exact odd_leaf rfl (by decide)
theorem od_list (L : List D) : putM 1 (lstM (consL (pureM (.int 0)) (consL (op1M dNeg (consL (pureM (.int 1)) nilL)) (consL (pureM (.int 41)) (consL (pureM (.int 40)) (consL (pureM (.int 1)) (consL (pureM (.int 42)) (consL (op2M dPow (consL (pureM (.int 10)) (consL (pureM (.int 12)) nilL))) (consL (op1M dNeg (consL (pureM (.int 40)) nilL)) (consL (pureM (.bl true)) (consL (pureM (.bl false)) (consL (pureM .non) (consL (pureM (.str [49])) (consL (pureM (.str [])) (consL (tupM nilL) (consL (tupM (consL (pureM (.int 1)) nilL)) (consL (frzM (lstM nilL)) (consL (frzM (lstM (consL (pureM (.int 1)) nilL))) (consL (frzM (pureM (.md []))) (consL (frzM (dispM (consP (pureM (.int 1)) (pureM (.int 1)) (pureM [])))) (consL (pureM (.int 24)) nilL))))))))))))))))))))) [.ml L, .un] = .ok .nx [.ml L, .ml oddL] := by
  have hp : op2M dPow (consL (pureM (.int 10)) (consL (pureM (.int 12)) nilL)) [.ml L, .un] = .ok (.int 1000000000000) [.ml L, .un] := rfl
  generalize op2M dPow (consL (pureM (.int 10)) (consL (pureM (.int 12)) nilL)) = PW at *
  have hd : frzM (dispM (consP (pureM (.int 1)) (pureM (.int 1)) (pureM []))) [.ml L, .un] = .ok (.dct [(.int 1, .int 1)]) [.ml L, .un] := rfl
  generalize frzM (dispM (consP (pureM (.int 1)) (pureM (.int 1)) (pureM []))) = DP at *
  have hn1 : op1M dNeg (consL (pureM (.int 1)) nilL) [.ml L, .un] = .ok (.int (-1)) [.ml L, .un] := rfl
  generalize op1M dNeg (consL (pureM (.int 1)) nilL) = N1 at *
  have hn2 : op1M dNeg (consL (pureM (.int 40)) nilL) [.ml L, .un] = .ok (.int (-40)) [.ml L, .un] := rfl
  generalize op1M dNeg (consL (pureM (.int 40)) nilL) = N2 at *
  simp [hp, hd, hn1, hn2, oddL, Sl.toD]
theorem call_odd (p : Src) (h : p.Ok) : ∃ (d : D) (p' : Src), (∀ (st : Env) (c : Nat), st[c]? = some (.ml p.l) → callO F__law_odd [0] [.io c] st = .ok (.fz d) (st.set c (.ml p'.l))) ∧ OddV d ∧ p'.Ok := by
  obtain ⟨i, x, p', e, hx, k⟩ := eq_choose p h oddL (by unfold oddL; simp) (by unfold oddL; simp)
  have cc : ∀ (st : Env) (c : Nat), st[c]? = some (.ml p.l) → callO F__law_choose [0] [.io c, .d (.lst oddL)] st = .ok (.fz x) (st.set c (.ml p'.l)) := fun st c hc => callO_io1 hc rfl e
  refine ⟨x, p', fun st c hc => callO_io0 hc rfl ?_, odd_all x (List.mem_of_getElem? hx), k⟩
  unfold F__law_odd m__law_odd
  rw [bodyF_ap]
  show bodyO [0] (seqM _ _ [.ml p.l, .un]) = _
  rw [seqM_ap, od_list, seqO_nx]
  generalize oddL = OL at *
  simp [cc, Sl.toD]
def ds12 (x : Int) : List D := [.int x, .int 1, .int x, .int 2, .int x, .int 3, .int x, .int 4, .int x, .int 5, .int x, .int 6]
theorem nin_ints (ls : List Int) : ∀ d ∈ ls.map D.int, nIn1 d = true := fun d hd => by
  obtain ⟨i, _, rfl⟩ := List.mem_map.mp hd; rfl
theorem okR_ints {ls : List Int} (h1 : 1 ≤ ls.length) (h12 : ls.length ≤ 12) (h : ∀ x ∈ ls, 1 ≤ x ∧ x ≤ 40) : okR (ls.map .int) = true := by
  unfold okR
  rw [List.length_map, decide_eq_true h1, decide_eq_true h12, Bool.true_and, Bool.true_and, List.all_eq_true]
  intro d hd
  obtain ⟨i, hi, rfl⟩ := List.mem_map.mp hd
  exact decide_eq_true (h i hi)
def ls12 (x : Int) : List Int := [x, 1, x, 2, x, 3, x, 4, x, 5, x, 6]
theorem tm_ev (x : Int) (st : Env) (h : st = [.fz (.int x), .fz (.int x)]) : (consL (nameM 1) (consL (pureM (.int 1)) (consL (nameM 1) (consL (pureM (.int 2)) (consL (nameM 1) (consL (pureM (.int 3)) (consL (nameM 1) (consL (pureM (.int 4)) (consL (nameM 1) (consL (pureM (.int 5)) (consL (nameM 1) (consL (pureM (.int 6)) (consL (pureM (.int 1)) nilL))))))))))))) st = .ok ((ls12 x ++ [1]).map .int) st := by
  subst h; rfl
theorem call_tm (x : Int) (hx : 1 ≤ x ∧ x ≤ 40) (st : Env) : callO F__law_too_many [] [.d (.int x)] st = .exc ⟨11, []⟩ st := by
  refine callO_x (ds := [.int x]) ?_
  have ho : okR ((ls12 x ++ [1]).map .int) = false := rfl
  have e := mkX_of (nin_ints (ls12 x ++ [1])) (tm_ev x [.fz (.int x), .fz (.int x)] rfl)
  rw [ho] at e
  show F__law_too_many [.fz (.int x)] = _
  unfold F__law_too_many m__law_too_many
  rw [bodyF_ap]
  show bodyO [] (seqM _ _ [.fz (.int x), .un]) = _
  have g1 : setM 1 (nameM 0) [.fz (.int x), .un] = .ok .nx [.fz (.int x), .fz (.int x)] := rfl
  rw [seqM_ap, g1, seqO_nx, retM_ap, e]
  rfl
theorem fu_ev (x : Int) (s2 : Sl) : (consL (nameM 1) (consL (pureM (.int 1)) (consL (nameM 1) (consL (pureM (.int 2)) (consL (nameM 1) (consL (pureM (.int 3)) (consL (nameM 1) (consL (pureM (.int 4)) (consL (nameM 1) (consL (pureM (.int 5)) (consL (nameM 1) (consL (pureM (.int 6)) nilL)))))))))))) [.fz (.int x), .fz (.int x), s2] = .ok ((ls12 x).map .int) [.fz (.int x), .fz (.int x), s2] := rfl
theorem fu_1 (x : Int) (hx : 1 ≤ x ∧ x ≤ 40) : putM 2 (makeX 0 F_Rule___init___Rule_o (consL (nameM 1) (consL (pureM (.int 1)) (consL (nameM 1) (consL (pureM (.int 2)) (consL (nameM 1) (consL (pureM (.int 3)) (consL (nameM 1) (consL (pureM (.int 4)) (consL (nameM 1) (consL (pureM (.int 5)) (consL (nameM 1) (consL (pureM (.int 6)) nilL)))))))))))) (pureM [])) [.fz (.int x), .fz (.int x), .un] = .ok .nx [.fz (.int x), .fz (.int x), .mi 0 (fsR ((ls12 x).map .int))] := by
  have ho : okR ((ls12 x).map .int) = true := okR_ints (by show 1 ≤ 12; decide) (by show 12 ≤ 12; decide) fun y hy => by
    simp only [ls12, List.mem_cons, List.not_mem_nil, or_false] at hy
    omega
  have e := mkX_of (nin_ints (ls12 x)) (fu_ev x .un)
  rw [ho, if_pos rfl] at e
  rw [putM_ap, e]; rfl
theorem ls12_sum (x : Int) : (ls12 x).sum = 6 * x + 21 := by
  simp only [ls12, List.sum_cons, List.sum_nil]; omega
theorem fu_2 (x : Int) (hx : 1 ≤ x ∧ x ≤ 40) : (iteM (notM (truM (frzM (callM F__law_is_equal [] (consA (frzM (lstM (consL (frzM (propM [0, 1, 2, 3] fp_total (nameM 2))) (consL (frzM (propM [0, 1, 2, 3] fp_rods (nameM 2))) nilL)))) (consA (frzM (lstM (consL (op2M dAdd (consL (op2M dMul (consL (pureM (.int 6)) (consN 0 nilL))) (consL (pureM (.int 21)) nilL))) (consL (frzM (lstM (consL (nameM 1) (consL (pureM (.int 1)) (consL (nameM 1) (consL (pureM (.int 2)) (consL (nameM 1) (consL (pureM (.int 3)) (consL (nameM 1) (consL (pureM (.int 4)) (consL (nameM 1) (consL (pureM (.int 5)) (consL (nameM 1) (consL (pureM (.int 6)) nilL)))))))))))))) nilL)))) nilA)))))) (retD (pureM (.bl false))) nxM) [.fz (.int x), .fz (.int x), .mi 0 (fsR ((ls12 x).map .int))] = .ok .nx [.fz (.int x), .fz (.int x), .fz (rlD ((ls12 x).map .int))] := by
  have r2 : ∃ s, dReprN [.lst [.int (6 * x + 21), .lst ((ls12 x).map .int)]] = some (.str s) := reprL (m := 1) (by omega) (fun y hy => by
    simp only [List.mem_cons, List.not_mem_nil, or_false] at hy
    rcases hy with rfl | rfl
    · exact (smd_I (by omega) (by omega)).mono (by omega) (by omega)
    · refine (smd_row (m := 0) (b := 100) (n := 2000) (fun z hz => ?_) (by rw [List.length_map]; show 101 * 12 ≤ 2000; decide)).2
      obtain ⟨i, hi, rfl⟩ := List.mem_map.mp hz
      simp only [ls12, List.mem_cons, List.not_mem_nil, or_false] at hi
      exact smd_I (by omega) (by omega)) (by simp)
  have ce := call_equalN _ r2
  have e1 := prop_total1 (ls12 x) (nameM 2) [.fz (.int x), .fz (.int x), .mi 0 (fsR ((ls12 x).map .int))] [.fz (.int x), .fz (.int x), .fz (rlD ((ls12 x).map .int))] rfl
  rw [ls12_sum] at e1
  have e2 := prop_rods1 ((ls12 x).map .int) (nameM 2) [.fz (.int x), .fz (.int x), .fz (rlD ((ls12 x).map .int))] [.fz (.int x), .fz (.int x), .fz (rlD ((ls12 x).map .int))] rfl
  have e3 := fu_ev x (.fz (rlD ((ls12 x).map .int)))
  have hm : dMul (.int 6) (.int x) = some (.int (6 * x)) := dMul_l (by decide)
  have ha : frzL ((ls12 x).map .int) = some ((ls12 x).map .int) := if_pos (by rw [List.length_map]; show 12 ≤ 16777216; decide)
  generalize propM [0, 1, 2, 3] fp_total (nameM 2) = P1 at *
  generalize propM [0, 1, 2, 3] fp_rods (nameM 2) = P2 at *
  generalize (consL (nameM 1) (consL (pureM (.int 1)) (consL (nameM 1) (consL (pureM (.int 2)) (consL (nameM 1) (consL (pureM (.int 3)) (consL (nameM 1) (consL (pureM (.int 4)) (consL (nameM 1) (consL (pureM (.int 5)) (consL (nameM 1) (consL (pureM (.int 6)) nilL)))))))))))) = LM at *
  generalize fsR ((ls12 x).map .int) = FS at *
  generalize rlD ((ls12 x).map .int) = RD at *
  generalize (ls12 x).map D.int = LL at *
  have e4 : frzM (lstM LM) [.fz (.int x), .fz (.int x), .fz RD] = .ok (.lst LL) [.fz (.int x), .fz (.int x), .fz RD] := by
    simp [e3, ha, Sl.toD]
  generalize frzM (lstM LM) = FL at *
  simp [e1, e2, e4, hm, ce, Sl.toD]
theorem call_full (x : Int) (hx : 1 ≤ x ∧ x ≤ 40) (st : Env) : callO F__law_is_full [] [.d (.int x)] st = .ok (.fz (.bl true)) st := by
  refine callO_d1 (?_ : F__law_is_full [.fz (.int x)] = .ret (.fz (.bl true)) []) rfl
  unfold F__law_is_full m__law_is_full
  rw [bodyF_ap]
  show bodyO [] (seqM _ _ [.fz (.int x), .un, .un]) = _
  have g0 : setM 1 (nameM 0) [.fz (.int x), .un, .un] = .ok .nx [.fz (.int x), .fz (.int x), .un] := rfl
  have ct := call_tm x hx
  have e : frzM (callM F__law_too_many [] (consA (nameM 0) nilA)) [.fz (.int x), .fz (.int x), .fz (rlD ((ls12 x).map .int))] = .exc ⟨11, []⟩ [.fz (.int x), .fz (.int x), .fz (rlD ((ls12 x).map .int))] := by
    generalize rlD ((ls12 x).map .int) = RD at *
    simp [ct]
  have e2 := lam_R (s := [118, 97, 108, 117, 101]) e
  have hq : dEq (.tup [.str sRE]) (.tup [.str [82, 111, 100, 115, 69, 114, 114, 111, 114]]) = some (.bl true) := rfl
  rw [seqM_ap, g0, seqO_nx, seqM_ap, fu_1 x hx, seqO_nx, seqM_ap, fu_2 x hx, seqO_nx]
  generalize lamA l__law_outcome [118, 97, 108, 117, 101] (frzM (callM F__law_too_many [] (consA (nameM 0) nilA))) = LA at *
  generalize D.tup [.str sRE] = TR at *
  generalize rlD ((ls12 x).map .int) = RD at *
  simp [e2, hq, Sl.toD]
abbrev lwE (SC I : D) (s1 : Sl) (L : List D) (s4 s5 s6 s7 : Sl) : Env := [.fz SC, s1, .fz I, .ml L, s4, s5, s6, s7]
section
variable (SC I : D) (s1 s4 : Sl) (L L1 L2 : List D)
theorem b1 (s5 s6 s7 : Sl) (X : List D) (c1 : ∀ (st : Env) (c : Nat), st[c]? = some (.ml L) → callO F__law_rods [0] [.io c, .d (.int 6)] st = .ok (.ml X) (st.set c (.ml L1))) :
    putM 5 (callM F__law_rods [0] (consIO 3 (consA (pureM (.int 6)) nilA))) (lwE SC I s1 L s4 s5 s6 s7) = .ok .nx (lwE SC I s1 L1 s4 (.ml X) s6 s7) := by
  simp [c1]
theorem b2 (s6 s7 : Sl) (X : List D) (h : dListS [.lst X] = some (.ml X)) : putM 6 (fnV dListS (consN 5 nilL)) (lwE SC I s1 L s4 (.ml X) s6 s7) = .ok .nx (lwE SC I s1 L s4 (.ml X) (.ml X) s7) := by
  simp [h, Sl.toD]
theorem b3 (s7 : Sl) (X : List D) (d : D) (n v : Int) (k : Nat) (hl : dLen [.lst X] = some (.int n)) (hx : ixN X.length v = some k) (c1 : ∀ (st : Env) (c : Nat), st[c]? = some (.ml L) → callO F__law_odd [0] [.io c] st = .ok (.fz d) (st.set c (.ml L1))) (c2 : ∀ (st : Env) (c : Nat), st[c]? = some (.ml L1) → callO F__law_draw [0] [.io c, .d (.int n)] st = .ok (.fz (.int v)) (st.set c (.ml L2))) :
    (bindM (frzM (callM F__law_odd [0] (consIO 3 nilA))) fun d => bindM ((subM 6 (frzM (callM F__law_draw [0] (consIO 3 (consA (fnM dLen (consN 5 nilL)) nilA))))) d) fun _ => nxM) (lwE SC I s1 L s4 (.ml X) (.ml X) s7) = .ok .nx (lwE SC I s1 L2 s4 (.ml X) (.ml (X.set k d)) s7) := by
  simp [c1, c2, hl, hx, -dLen_lst, Sl.toD]
theorem b4 (s7 : Sl) (X Y : List D) (d : D) (c1 : ∀ st, callO F__law_is_right [] [.d (.lst X)] st = .ok (.fz (.bl true)) st) (c2 : ∀ st, callO F__law_is_right [] [.d (.lst Y)] st = .ok (.fz (.bl true)) st) (c3 : ∀ (st : Env) (c : Nat), st[c]? = some (.ml L) → callO F__law_odd [0] [.io c] st = .ok (.fz d) (st.set c (.ml L1))) (c4 : ∀ st, callO F__law_is_right [] [.d (.lst [d])] st = .ok (.fz (.bl true)) st) :
    (iteM (orM (notM (truM (frzM (callM F__law_is_right [] (consA (nameM 5) nilA))))) (orM (notM (truM (frzM (callM F__law_is_right [] (consA (nameM 6) nilA))))) (notM (truM (frzM (callM F__law_is_right [] (consA (frzM (lstM (consL (frzM (callM F__law_odd [0] (consIO 3 nilA))) nilL))) nilA))))))) (retD (pureM (.bl false))) nxM) (lwE SC I s1 L s4 (.ml X) (.ml Y) s7) = .ok .nx (lwE SC I s1 L1 s4 (.fz (.lst X)) (.fz (.lst Y)) s7) := by
  simp [c1, c2, c3, c4, Sl.toD]
theorem b5 (s5 s6 s7 : Sl) (d : D) (c1 : ∀ (st : Env) (c : Nat), st[c]? = some (.ml L) → callO F__law_odd [0] [.io c] st = .ok (.fz d) (st.set c (.ml L1))) :
    putM 7 (callM F__law_odd [0] (consIO 3 nilA)) (lwE SC I s1 L s4 s5 s6 s7) = .ok .nx (lwE SC I s1 L1 s4 s5 s6 (.fz d)) := by
  simp [c1]
theorem b6 (s6 : Sl) (X d x : D) (b : Bool) (hx : dIx X (.int 0) = some x) (r1 : ∀ st, callO F_Rule_is_rod [] [.d d] st = .ok (.fz (.bl b)) st) (r2 : ∀ st, callO F_Rule_is_rod [] [.d x] st = .ok (.fz (.bl true)) st) (r3 : ∀ st, callO F__law_is_length [] [.d d] st = .ok (.fz (.bl b)) st) (ce : ∀ st, callO F__law_is_equal [] [.d (.lst [.bl b, .bl true]), .d (.lst [.bl b, .bl true])] st = .ok (.fz (.bl true)) st) :
    (iteM (notM (truM (frzM (callM F__law_is_equal [] (consA (frzM (lstM (consL (frzM (callM F_Rule_is_rod [] (consA (nameM 7) nilA))) (consL (frzM (callM F_Rule_is_rod [] (consA (op2M dIx (consN 5 (consL (pureM (.int 0)) nilL))) nilA))) nilL)))) (consA (frzM (lstM (consL (frzM (callM F__law_is_length [] (consA (nameM 7) nilA))) (consL (pureM (.bl true)) nilL)))) nilA)))))) (retD (pureM (.bl false))) nxM) (lwE SC I s1 L s4 (.fz X) s6 (.fz d)) = .ok .nx (lwE SC I s1 L s4 (.fz X) s6 (.fz d)) := by
  simp [hx, r1, r2, r3, ce, Sl.toD]
end
theorem lap01 (SC I : D) (s1 s4 s5 s6 s7 : Sl) (p : Src) (hp : p.Ok) : ∃ (p' : Src) (t5 t6 t7 : Sl), b_law_1 (lwE SC I s1 p.l s4 s5 s6 s7) = .ok .nx (lwE SC I s1 p'.l s4 t5 t6 t7) ∧ p'.Ok := by
  obtain ⟨ls, p1, c1, l1, l6, hls, k1⟩ := call_rods p hp 6 (by decide) (by decide)
  have g1 := b1 SC I s1 s4 p.l p1.l s5 s6 s7 _ c1
  have g2 := b2 SC I s1 s4 p1.l s6 s7 (ls.map .int) rfl
  obtain ⟨d, p2, c2, od, k2⟩ := call_odd p1 k1
  have hdl : dLen [.lst (ls.map .int)] = some (.int (ls.length : Nat)) := by
    show some (D.int _) = _
    rw [List.length_map]
  obtain ⟨v, p3, c3, v0, v1, k3⟩ := call_draw p2 k2 ls.length (by omega) (by omega)
  have hix : ixN (ls.map D.int).length v = some v.toNat := by
    rw [List.length_map]
    unfold ixN
    rw [if_pos v0, if_pos v1]
  have g3 := b3 SC I s1 s4 p1.l p2.l p3.l s7 (ls.map .int) d _ v v.toNat hdl hix c2 c3
  obtain ⟨d2, p4, c4, od2, k4⟩ := call_odd p3 k3
  have hI : ∀ x ∈ ls.map D.int, OddV x := fun x hx => by
    obtain ⟨i, hi, rfl⟩ := List.mem_map.mp hx
    have := hls i hi
    exact ⟨rfl, (smd_I (by omega) (by omega)).mono (by omega) (by omega)⟩
  have hS : ∀ x ∈ (ls.map D.int).set v.toNat d, OddV x := fun x hx => by
    rcases List.mem_or_eq_of_mem_set hx with h | rfl
    · exact hI x h
    · exact od
  have e1 := call_right1 (ls.map .int) (by rw [List.length_map]; exact l6) (fun x hx => (hI x hx).n) (fun x hx => (hI x hx).s)
  have e2 := call_right1 ((ls.map .int).set v.toNat d) (by rw [List.length_set, List.length_map]; exact l6) (fun x hx => (hS x hx).n) (fun x hx => (hS x hx).s)
  have e3 := call_right1 [d2] (by simp) (fun x hx => by rw [List.mem_singleton.mp hx]; exact od2.n) (fun x hx => by rw [List.mem_singleton.mp hx]; exact od2.s)
  have g4 := b4 SC I s1 s4 p3.l p4.l s7 (ls.map .int) ((ls.map .int).set v.toNat d) d2 e1 e2 c4 e3
  obtain ⟨d3, p5, c5, od3, k5⟩ := call_odd p4 k4
  have g5 := b5 SC I s1 s4 p4.l p5.l (.fz (.lst (ls.map .int))) (.fz (.lst ((ls.map .int).set v.toNat d))) s7 d3 c5
  obtain ⟨y, ys, hy⟩ := List.exists_cons_of_ne_nil (List.length_pos_iff.mp (by omega : 0 < ls.length))
  have hx0 : dIx (.lst (ls.map .int)) (.int 0) = some (.int y) := by rw [hy]; exact dIx_lstN (n := 0) rfl
  have hyo : isLn (.int y) = true := decide_eq_true (hls y (by rw [hy]; exact .head _))
  have r2 := call_rod1 (.int y) rfl
  rw [hyo] at r2
  have rp : ∃ s, dReprN [.lst [.bl (isLn d3), .bl true]] = some (.str s) := reprL (m := 0) (by omega) (fun x hx => by
    simp only [List.mem_cons, List.not_mem_nil, or_false] at hx
    rcases hx with rfl | rfl
    · exact (smd_leaf (d := .bl _) rfl).mono (by omega) (by omega)
    · exact (smd_leaf (d := .bl _) rfl).mono (by omega) (by omega)) (by simp)
  have g6 := b6 SC I s1 s4 p5.l (.fz (.lst ((ls.map .int).set v.toNat d))) (.lst (ls.map .int)) d3 (.int y) _ hx0 (call_rod1 d3 od3.n) r2 (call_len1 d3 od3.n) (call_equalN _ rp)
  refine ⟨p5, .fz (.lst (ls.map .int)), .fz (.lst ((ls.map .int).set v.toNat d)), .fz d3, ?_, k5⟩
  unfold b_law_1
  rw [seqM_ap, g1, seqO_nx, seqM_ap, g2, seqO_nx, seqM_ap, g3, seqO_nx, seqM_ap, g4, seqO_nx, seqM_ap, g5, seqO_nx, g6]
theorem laps01 (SC I : D) (s1 : Sl) : ∀ (is : List Nat) (p : Src) (hp : p.Ok) (s4 s5 s6 s7 : Sl), ∃ (p' : Src) (t4 t5 t6 t7 : Sl), forL (tgN 4) b_law_1 (is.map fun i : Nat => .int (0 + (i : Int))) (lwE SC I s1 p.l s4 s5 s6 s7) = .ok .nx (lwE SC I s1 p'.l t4 t5 t6 t7) ∧ p'.Ok
  | [], p, hp, s4, s5, s6, s7 => ⟨p, s4, s5, s6, s7, rfl, hp⟩
  | i :: is, p, hp, s4, s5, s6, s7 => by
    obtain ⟨p1, a5, a6, a7, e1, k1⟩ := lap01 SC I s1 (.fz (.int (0 + (i : Int)))) s5 s6 s7 p hp
    obtain ⟨p2, t4, t5, t6, t7, e2, k2⟩ := laps01 SC I s1 is p1 k1 (.fz (.int (0 + (i : Int)))) a5 a6 a7
    refine ⟨p2, t4, t5, t6, t7, ?_, k2⟩
    rw [List.map_cons, forL_cons, tgN_ap, bind_ok]
    show forK _ _ _ (b_law_1 (lwE SC I s1 p.l (.fz (.int (0 + (i : Int)))) s5 s6 s7)) = _
    rw [e1, forK_nx, e2]
theorem z0 (SC I X : D) (L : List D) (s1 s3 s4 s5 s6 s7 : Sl) (c1 : ∀ st, callO F__law_cell [] [.d SC, .d I] st = .ok (.fz X) st) (c2 : ∀ st, callO F__law_source [] [.d X] st = .ok (.ml L) st) :
    putM 3 (callM F__law_source [] (consA (frzM (callM F__law_cell [] (consA (nameM 0) (consA (nameM 2) nilA)))) nilA)) [.fz SC, s1, .fz I, s3, s4, s5, s6, s7] = .ok .nx (lwE SC I s1 L s4 s5 s6 s7) := by
  simp [c1, c2]
theorem z1 (SC I : D) (L L1 : List D) (v : Int) (s1 s4 s5 s6 s7 : Sl) (c1 : ∀ (st : Env) (c : Nat), st[c]? = some (.ml L) → callO F__law_draw [0] [.io c, .d (.int 40)] st = .ok (.fz (.int v)) (st.set c (.ml L1))) (c2 : ∀ st, callO F__law_is_full [] [.d (.int (1 + v))] st = .ok (.fz (.bl true)) st) :
    (iteM (notM (truM (frzM (callM F__law_is_full [] (consA (op2M dAdd (consL (pureM (.int 1)) (consL (frzM (callM F__law_draw [0] (consIO 3 (consA (pureM (.int 40)) nilA)))) nilL))) nilA))))) (retD (pureM (.bl false))) nxM) (lwE SC I s1 L s4 s5 s6 s7) = .ok .nx (lwE SC I s1 L1 s4 s5 s6 s7) := by
  simp [c1, c2]
theorem cell01 (ns : List Int) (hns : ns.length ≤ 63) (i : Nat) (s1 s3 s4 s5 s6 s7 : Sl) : ∃ (t3 t4 t5 t6 t7 : Sl), b_law_2 [.fz (.scr ns), s1, .fz (.int (i : Int)), s3, s4, s5, s6, s7] = .ok .nx [.fz (.scr ns), s1, .fz (.int (i : Int)), t3, t4, t5, t6, t7] := by
  obtain ⟨x, ex⟩ := eq_cell ns hns i
  obtain ⟨p, ep, kp⟩ := eq_source x
  have g1 := z0 (.scr ns) (.int (i : Int)) (.int x) p.l s1 s3 s4 s5 s6 s7 (fun st => callO_d2 ex rfl) (fun st => callO_d1 ep rfl)
  obtain ⟨v, p1, c1, v0, v1, k1⟩ := call_draw p kp 40 (by decide) (by decide)
  have g2 := z1 (.scr ns) (.int (i : Int)) p.l p1.l v s1 s4 s5 s6 s7 c1 (call_full (1 + v) (by omega))
  have hr : rng1M (consL (pureM (.int 12)) nilL) (lwE (.scr ns) (.int (i : Int)) s1 p1.l s4 s5 s6 s7) = .ok ((List.range 12).map fun i : Nat => .int (0 + (i : Int))) (lwE (.scr ns) (.int (i : Int)) s1 p1.l s4 s5 s6 s7) := rng1M_of (n := 12) rfl (by decide)
  obtain ⟨p2, t4, t5, t6, t7, e, _⟩ := laps01 (.scr ns) (.int (i : Int)) s1 (List.range 12) p1 k1 s4 s5 s6 s7
  refine ⟨.ml p2.l, t4, t5, t6, t7, ?_⟩
  unfold b_law_2
  rw [seqM_ap, g1, seqO_nx, seqM_ap, g2, seqO_nx, forM_ap, hr, bind_ok, e]
theorem cells01 (ns : List Int) (hns : ns.length ≤ 63) (s1 : Sl) : ∀ (is : List Nat) (s2 s3 s4 s5 s6 s7 : Sl), ∃ (t2 t3 t4 t5 t6 t7 : Sl), forL (tgN 2) b_law_2 (is.map fun i : Nat => .int (0 + (i : Int))) [.fz (.scr ns), s1, s2, s3, s4, s5, s6, s7] = .ok .nx [.fz (.scr ns), s1, t2, t3, t4, t5, t6, t7]
  | [], s2, s3, s4, s5, s6, s7 => ⟨s2, s3, s4, s5, s6, s7, rfl⟩
  | i :: is, s2, s3, s4, s5, s6, s7 => by
    obtain ⟨a3, a4, a5, a6, a7, e1⟩ := cell01 ns hns i s1 s3 s4 s5 s6 s7
    obtain ⟨t2, t3, t4, t5, t6, t7, e2⟩ := cells01 ns hns s1 is (.fz (.int (i : Int))) a3 a4 a5 a6 a7
    refine ⟨t2, t3, t4, t5, t6, t7, ?_⟩
    rw [List.map_cons, forL_cons, tgN_ap, bind_ok, Int.zero_add]
    show forK _ _ _ (b_law_2 [.fz (.scr ns), s1, .fz (.int (i : Int)), s3, s4, s5, s6, s7]) = _
    rw [e1, forK_nx, e2]
def limL : List D := [.int 12, .int 40, .int 12, .int 40, .int 40]
theorem law_true (ns : List Int) (h : ns.length ≤ 63) : ∃ o, F_law [.fz (.scr ns)] = .ret (.fz (.bl true)) o := by
  have g1 : putM 1 (lstM (consL (pureM (.int 12)) (consL (pureM (.int 40)) (consL (pureM (.int 12)) (consL (pureM (.int 40)) (consL (pureM (.int 40)) nilL)))))) [.fz (.scr ns), .un, .un, .un, .un, .un, .un, .un] = .ok .nx [.fz (.scr ns), .ml limL, .un, .un, .un, .un, .un, .un] := rfl
  have rl : ∃ s, dReprN [.lst limL] = some (.str s) := reprL (m := 0) (by omega) (fun x hx => by
    simp only [limL, List.mem_cons, List.not_mem_nil, or_false] at hx
    rcases hx with rfl | rfl | rfl | rfl | rfl <;> exact (smd_I (by omega) (by omega)).mono (by omega) (by omega)) (by unfold limL; simp)
  have ce := call_equalN _ rl
  have g2 : (iteM (notM (truM (frzM (callM F__law_is_equal [] (consA (nameM 1) (consA (frzM (lstM (consL (pureM (.int 12)) (consL (pureM (.int 40)) (consL (pureM (.int 12)) (consL (pureM (.int 40)) (consL (pureM (.int 40)) nilL))))))) nilA)))))) (retD (pureM (.bl false))) nxM) [.fz (.scr ns), .ml limL, .un, .un, .un, .un, .un, .un] = .ok .nx [.fz (.scr ns), .fz (.lst limL), .un, .un, .un, .un, .un, .un] := by
    have e : frzM (lstM (consL (pureM (.int 12)) (consL (pureM (.int 40)) (consL (pureM (.int 12)) (consL (pureM (.int 40)) (consL (pureM (.int 40)) nilL)))))) [.fz (.scr ns), .fz (.lst limL), .un, .un, .un, .un, .un, .un] = .ok (.lst limL) [.fz (.scr ns), .fz (.lst limL), .un, .un, .un, .un, .un, .un] := rfl
    generalize frzM (lstM (consL (pureM (.int 12)) (consL (pureM (.int 40)) (consL (pureM (.int 12)) (consL (pureM (.int 40)) (consL (pureM (.int 40)) nilL)))))) = FL at *
    generalize limL = LL at *
    simp [e, ce, Sl.toD]
  have hr : ∃ m : Nat, rng1M (consL (fnM dMax (consL (pureM (.int 1)) (consL (fnM dMin (consL (fnM dLen (consN 0 nilL)) (consL (pureM (.int 4)) nilL))) nilL))) nilL) [.fz (.scr ns), .fz (.lst limL), .un, .un, .un, .un, .un, .un] = .ok ((List.range m).map fun i : Nat => .int (0 + (i : Int))) [.fz (.scr ns), .fz (.lst limL), .un, .un, .un, .un, .un, .un] := by
    have hd : dLen [.scr ns] = some (.int ns.length) := rfl
    refine ⟨(max 1 (min (ns.length : Int) 4)).toNat, rng1M_of ?_ (by omega)⟩
    have e : (((max 1 (min (ns.length : Int) 4)).toNat : Nat) : Int) = max 1 (min (ns.length : Int) 4) := by omega
    rw [e]
    simp [hd, dMin2, dMax2]
  obtain ⟨m, hr⟩ := hr
  obtain ⟨t2, t3, t4, t5, t6, t7, e⟩ := cells01 ns h (.fz (.lst limL)) (List.range m) .un .un .un .un .un .un
  have cr := call_right1 [] (by simp) (fun _ h => nomatch h) (fun _ h => nomatch h)
  have g4 : retM (callM F__law_is_right [] (consA (frzM (lstM nilL)) nilA)) [.fz (.scr ns), .fz (.lst limL), t2, t3, t4, t5, t6, t7] = .ok (.rt (.fz (.bl true))) [.fz (.scr ns), .fz (.lst limL), t2, t3, t4, t5, t6, t7] := by
    simp [cr, Sl.toD]
  have hb : b_law_3 [.fz (.scr ns), .un, .un, .un, .un, .un, .un, .un] = .ok (.rt (.fz (.bl true))) [.fz (.scr ns), .fz (.lst limL), t2, t3, t4, t5, t6, t7] := by
    unfold b_law_3
    rw [seqM_ap, g1, seqO_nx, seqM_ap, g2, seqO_nx, seqM_ap, forM_ap, hr, bind_ok, e, seqO_nx, g4]
  refine ⟨[], ?_⟩
  unfold F_law m_law
  rw [bodyF_ap]
  show bodyO [] (tryM _ _ [.fz (.scr ns), .un, .un, .un, .un, .un, .un, .un]) = _
  have ht : ∀ hs, tryM hs b_law_3 [.fz (.scr ns), .un, .un, .un, .un, .un, .un, .un] = .ok (.rt (.fz (.bl true))) [.fz (.scr ns), .fz (.lst limL), t2, t3, t4, t5, t6, t7] := fun hs => by
    unfold tryM; rw [hb]
  rw [ht]
  rfl
end Rz
namespace Rz
open PySem PySem.Spec PyProof.Rows L2 NdefX ClX
structure Cont (P : Program) (K : PySem.W.Frag) (mg : Str → Option Value) : Prop where
  at_ : ∃ h : Heap, K.In h ∧ h.Ns mainGlobals mg
  s : SaysX hd K
  sp : SupG P K mg PySem.Challenge.pw_rodturns_k01_rules_are_made_of_rods.main.file
section
variable {P : Program} {K : PySem.W.Frag} {mg : Str → Option Value} (c : Cont P K mg)
include c
theorem Cont.free (i : Nat) {x : Str} (h : hd.fa[i]? = some (.free x)) : mg x = none := by
  obtain ⟨_, X, G⟩ := c.at_
  exact He.free_ok X G (c.s.fact i h)
theorem Cont.glo (i : Nat) {x : Str} (h : hd.fa[i]? = some (.glo x)) : mg x = some (.ref (He.ga K x)) := by
  obtain ⟨_, X, G⟩ := c.at_
  exact He.glo_ok X G (c.s.fact i h)
theorem Cont.int (i : Nat) {x : Str} {z : Int} (h : hd.fa[i]? = some (.int x z)) : ∃ t, mg x = some (.int z t) := by
  obtain ⟨_, X, G⟩ := c.at_
  exact He.int_ok X G (c.s.fact i h)
theorem Cont.str (i : Nat) {x z : Str} (h : hd.fa[i]? = some (.str x z)) : ∃ t, mg x = some (.str z t) := by
  obtain ⟨_, X, G⟩ := c.at_
  exact He.str_ok X G (c.s.fact i h)
end
theorem cont_of {K : PySem.W.Frag} {mg : Str → Option Value} {h : Heap} (X : K.In h) (G : h.Ns mainGlobals mg) (s : SaysX hd K) : Cont PySem.Challenge.pw_rodturns_k01_rules_are_made_of_rods K mg :=
  ⟨⟨h, X, G⟩, s, by rfl, He.free_ok X G (s.fact 60 rfl), by rfl, He.eqO_ok (s.ch 66 rfl)⟩
def clsN : Nat → Str
  | 9 => "FoldError"
  | 11 => "RodsError"
  | 12 => "LockError"
  | 0 => "Rule"
  | 1 => "Held"
  | 2 => "Aimed"
  | 3 => "Bound"
  | _ => "object"
def gM (K : PySem.W.Frag) (c : Nat) : Addr := He.ga K (clsN c)
theorem isi_Aimed {P : Program} {K : PySem.W.Frag} {mg : Str → Option Value} (c : Cont P K mg) : IsiOk K (gM K) (.ref (He.ga K "Aimed")) (isC [2, 3] [0]) :=
  have h1 : ∀ n ∈ [2, 3], InsTy K (gM K n) ∧ PySem.W.kitOne K (.ref (gM K n)) (.ref (He.ga K "Aimed")) = some true := by
    intro n hc
    simp only [List.mem_cons, List.not_mem_nil, or_false] at hc; rcases hc with rfl | rfl
    · exact ⟨insB_ok (c.s.ch 45 rfl), kitB2_ok (c.s.ch 46 rfl)⟩
    · exact ⟨insB_ok (c.s.ch 47 rfl), kitB2_ok (c.s.ch 48 rfl)⟩
  have h2 : ∀ n ∈ ([0] : List Nat), InsTy K (gM K n) ∧ PySem.W.kitOne K (.ref (gM K n)) (.ref (He.ga K "Aimed")) = some false := by
    intro n hc
    simp only [List.mem_cons, List.not_mem_nil, or_false] at hc; subst hc
    · exact ⟨insB_ok (c.s.ch 49 rfl), kitB2_ok (c.s.ch 50 rfl)⟩
  isiC_ok (fun t ht => kitB2_ok (List.all_eq_true.mp (c.s.ch 44 rfl) t ht)) h1 h2
theorem isi_Held {P : Program} {K : PySem.W.Frag} {mg : Str → Option Value} (c : Cont P K mg) : IsiOk K (gM K) (.ref (He.ga K "Held")) (isC [1, 3] [0]) :=
  have h1 : ∀ n ∈ [1, 3], InsTy K (gM K n) ∧ PySem.W.kitOne K (.ref (gM K n)) (.ref (He.ga K "Held")) = some true := by
    intro n hc
    simp only [List.mem_cons, List.not_mem_nil, or_false] at hc; rcases hc with rfl | rfl
    · exact ⟨insB_ok (c.s.ch 52 rfl), kitB2_ok (c.s.ch 53 rfl)⟩
    · exact ⟨insB_ok (c.s.ch 47 rfl), kitB2_ok (c.s.ch 54 rfl)⟩
  have h2 : ∀ n ∈ ([0] : List Nat), InsTy K (gM K n) ∧ PySem.W.kitOne K (.ref (gM K n)) (.ref (He.ga K "Held")) = some false := by
    intro n hc
    simp only [List.mem_cons, List.not_mem_nil, or_false] at hc; subst hc
    · exact ⟨insB_ok (c.s.ch 49 rfl), kitB2_ok (c.s.ch 55 rfl)⟩
  isiC_ok (fun t ht => kitB2_ok (List.all_eq_true.mp (c.s.ch 51 rfl) t ht)) h1 h2
theorem isi_Rule {P : Program} {K : PySem.W.Frag} {mg : Str → Option Value} (c : Cont P K mg) : IsiOk K (gM K) (.ref (He.ga K "Rule")) (isC [0, 1, 2, 3] []) :=
  have h1 : ∀ n ∈ [0, 1, 2, 3], InsTy K (gM K n) ∧ PySem.W.kitOne K (.ref (gM K n)) (.ref (He.ga K "Rule")) = some true := by
    intro n hc
    simp only [List.mem_cons, List.not_mem_nil, or_false] at hc; rcases hc with rfl | rfl | rfl | rfl
    · exact ⟨insB_ok (c.s.ch 49 rfl), kitB2_ok (c.s.ch 57 rfl)⟩
    · exact ⟨insB_ok (c.s.ch 52 rfl), kitB2_ok (c.s.ch 58 rfl)⟩
    · exact ⟨insB_ok (c.s.ch 45 rfl), kitB2_ok (c.s.ch 59 rfl)⟩
    · exact ⟨insB_ok (c.s.ch 47 rfl), kitB2_ok (c.s.ch 60 rfl)⟩
  have h2 : ∀ n ∈ ([] : List Nat), InsTy K (gM K n) ∧ PySem.W.kitOne K (.ref (gM K n)) (.ref (He.ga K "Rule")) = some false := fun _ h => by cases h
  isiC_ok (fun t ht => kitB2_ok (List.all_eq_true.mp (c.s.ch 56 rfl) t ht)) h1 h2
theorem isi_bool {P : Program} {K : PySem.W.Frag} {mg : Str → Option Value} (c : Cont P K mg) : IsiOk K (gM K) (.type "bool") (isB "bool" [0]) := isiB_ok (by decide +kernel) (by
  intro n hc
  simp only [List.mem_cons, List.not_mem_nil, or_false] at hc; subst hc
  · exact ⟨insB_ok (c.s.ch 49 rfl), kitB2_ok (c.s.ch 61 rfl)⟩
)
theorem isi_int {P : Program} {K : PySem.W.Frag} {mg : Str → Option Value} (c : Cont P K mg) : IsiOk K (gM K) (.type "int") (isB "int" [0]) := isiB_ok (by decide +kernel) (by
  intro n hc
  simp only [List.mem_cons, List.not_mem_nil, or_false] at hc; subst hc
  · exact ⟨insB_ok (c.s.ch 49 rfl), kitB2_ok (c.s.ch 62 rfl)⟩
)
abbrev s__law_is_equal : Stmt := (top 18)
theorem sc__law_is_equal : FnScope ["_law_actual", "_law_expected"] ["_law_actual", "_law_expected"] (defScope s__law_is_equal) := ⟨rfl, rfl, rfl, by decide +kernel, rfl, by decide +kernel, by decide +kernel⟩
theorem ok__law_is_equal {P : Program} {w : World} {K : PySem.W.Frag} {mg : Str → Option Value} {base : Heap} (c : Cont P K mg) : FnHG P w K mg base (gM K) 1 "_law_is_equal" 2 [] F__law_is_equal := by
  obtain ⟨fd, F⟩ := c.s.def_ 0 (d := d__law_is_equal) rfl
  exact FnHG.of F sc__law_is_equal (by decide) (c.glo 1 rfl) (fun _ _ _ _ _ _ us hl => match us, hl with | [_, _], _ => rfl) fun cdv A outer s H E hr hgd => (sb_one (sc_retD (snd_cmp (opS_eq hr.units) (by rfl) (sl_cons (snd_callB (callS_reprN hgd hr.units (sysB_ok (c.s.ch 0 rfl))) rfl (c.free 0 rfl) (by rfl) (sl_name (i := 0) sl_nil) (pal_cons pal_nil)) (sl_cons (snd_callB (callS_reprN hgd hr.units (sysB_ok (c.s.ch 0 rfl))) rfl (c.free 0 rfl) (by rfl) (sl_name (i := 1) sl_nil) (pal_cons pal_nil)) sl_nil)))))
theorem fld_lengths {P : Program} {K : PySem.W.Frag} {mg : Str → Option Value} (c : Cont P K mg) : FldOk K (gM K) csAll "lengths" := by
  intro n hc
  unfold csAll at hc
  simp only [List.mem_cons, List.not_mem_nil, or_false] at hc; rcases hc with rfl | rfl | rfl | rfl
  · exact ⟨He.cls_ok (c.s.fact 3 rfl), He.noat_ok (c.s.fact 4 rfl)⟩
  · exact ⟨He.cls_ok (c.s.fact 5 rfl), He.noat_ok (c.s.fact 6 rfl)⟩
  · exact ⟨He.cls_ok (c.s.fact 7 rfl), He.noat_ok (c.s.fact 8 rfl)⟩
  · exact ⟨He.cls_ok (c.s.fact 9 rfl), He.noat_ok (c.s.fact 10 rfl)⟩
abbrev s_Rule_total : Stmt := (mem 7 4)
theorem sc_Rule_total : FnScope ["self"] ["self"] (defScope s_Rule_total) := ⟨rfl, rfl, rfl, by decide +kernel, rfl, by decide +kernel, by decide +kernel⟩
theorem ok_Rule_total {P : Program} {w : World} {K : PySem.W.Frag} {mg : Str → Option Value} {base : Heap} (c : Cont P K mg) : FnA P w K mg base (gM K) 1 (wfA "Rule" "total" "property" K) 1 [] F_Rule_total := by
  obtain ⟨h1, h2, fd, F⟩ := c.s.fw 0 (d := w_Rule_total) rfl
  exact FnA.of F h1 h2 sc_Rule_total (by decide) (fun _ _ _ _ _ _ us hl => match us, hl with | [_], _ => rfl) fun cdv A outer s H E hr => (sb_one (sc_retD (snd_callB (callS_sum rfl) rfl (c.free 2 rfl) (by rfl) (sl_cons (snd_fld (fld_lengths c) (sl_name (i := 0) sl_nil)) sl_nil) (pal_cons pal_nil))))
theorem pmok_total {P : Program} {w : World} {K : PySem.W.Frag} {mg : Str → Option Value} {base : Heap} (c : Cont P K mg) : PropOk P w K mg base (gM K) 1 [0, 1, 2, 3] "total" fp_total := by
  intro n hc
  simp only [List.mem_cons, List.not_mem_nil, or_false] at hc; rcases hc with rfl | rfl | rfl | rfl
  · exact Exists.elim (propB_ok (c.s.ch 1 rfl)) fun _ hp => ⟨_, _, He.cls_ok (c.s.fact 3 rfl), hp, (ok_Rule_total c).mono (by decide)⟩
  · exact Exists.elim (propB_ok (c.s.ch 2 rfl)) fun _ hp => ⟨_, _, He.cls_ok (c.s.fact 5 rfl), hp, (ok_Rule_total c).mono (by decide)⟩
  · exact Exists.elim (propB_ok (c.s.ch 3 rfl)) fun _ hp => ⟨_, _, He.cls_ok (c.s.fact 7 rfl), hp, (ok_Rule_total c).mono (by decide)⟩
  · exact Exists.elim (propB_ok (c.s.ch 4 rfl)) fun _ hp => ⟨_, _, He.cls_ok (c.s.fact 9 rfl), hp, (ok_Rule_total c).mono (by decide)⟩
abbrev s_Rule_rods : Stmt := (mem 7 3)
theorem sc_Rule_rods : FnScope ["self"] ["self"] (defScope s_Rule_rods) := ⟨rfl, rfl, rfl, by decide +kernel, rfl, by decide +kernel, by decide +kernel⟩
theorem ok_Rule_rods {P : Program} {w : World} {K : PySem.W.Frag} {mg : Str → Option Value} {base : Heap} (c : Cont P K mg) : FnA P w K mg base (gM K) 1 (wfA "Rule" "rods" "property" K) 1 [] F_Rule_rods := by
  obtain ⟨h1, h2, fd, F⟩ := c.s.fw 1 (d := w_Rule_rods) rfl
  exact FnA.of F h1 h2 sc_Rule_rods (by decide) (fun _ _ _ _ _ _ us hl => match us, hl with | [_], _ => rfl) fun cdv A outer s H E hr => (sb_one (sc_ret (snd_callTyV (callV_listS rfl) rfl (c.free 11 rfl) (by rfl) (sl_cons (snd_fld (fld_lengths c) (sl_name (i := 0) sl_nil)) sl_nil) (pal_cons pal_nil))))
theorem pmok_rods {P : Program} {w : World} {K : PySem.W.Frag} {mg : Str → Option Value} {base : Heap} (c : Cont P K mg) : PropOk P w K mg base (gM K) 1 [0, 1, 2, 3] "rods" fp_rods := by
  intro n hc
  simp only [List.mem_cons, List.not_mem_nil, or_false] at hc; rcases hc with rfl | rfl | rfl | rfl
  · exact Exists.elim (propB_ok (c.s.ch 5 rfl)) fun _ hp => ⟨_, _, He.cls_ok (c.s.fact 3 rfl), hp, (ok_Rule_rods c).mono (by decide)⟩
  · exact Exists.elim (propB_ok (c.s.ch 6 rfl)) fun _ hp => ⟨_, _, He.cls_ok (c.s.fact 5 rfl), hp, (ok_Rule_rods c).mono (by decide)⟩
  · exact Exists.elim (propB_ok (c.s.ch 7 rfl)) fun _ hp => ⟨_, _, He.cls_ok (c.s.fact 7 rfl), hp, (ok_Rule_rods c).mono (by decide)⟩
  · exact Exists.elim (propB_ok (c.s.ch 8 rfl)) fun _ hp => ⟨_, _, He.cls_ok (c.s.fact 9 rfl), hp, (ok_Rule_rods c).mono (by decide)⟩
abbrev s_Rule_options : Stmt := (mem 7 7)
theorem sc_Rule_options : FnScope ["self"] ["self"] (defScope s_Rule_options) := ⟨rfl, rfl, rfl, by decide +kernel, rfl, by decide +kernel, by decide +kernel⟩
theorem ok_Rule_options {P : Program} {w : World} {K : PySem.W.Frag} {mg : Str → Option Value} {base : Heap} (c : Cont P K mg) : FnA P w K mg base (gM K) 1 (He.fAd K ("Rule", some "options")) 1 [] F_Rule_options := by
  obtain ⟨fd, F⟩ := c.s.def_ 1 (d := d_Rule_options) rfl
  exact FnA.of F (c.s.ch 10 rfl) (c.s.ch 11 rfl) sc_Rule_options (by decide) (fun _ _ _ _ _ _ us hl => match us, hl with | [_], _ => rfl) fun cdv A outer s H E hr => (sb_one (sc_ret snd_d0))
theorem fld_folded {P : Program} {K : PySem.W.Frag} {mg : Str → Option Value} (c : Cont P K mg) : FldOk K (gM K) csAll "folded" := by
  intro n hc
  unfold csAll at hc
  simp only [List.mem_cons, List.not_mem_nil, or_false] at hc; rcases hc with rfl | rfl | rfl | rfl
  · exact ⟨He.cls_ok (c.s.fact 3 rfl), He.noat_ok (c.s.fact 15 rfl)⟩
  · exact ⟨He.cls_ok (c.s.fact 5 rfl), He.noat_ok (c.s.fact 16 rfl)⟩
  · exact ⟨He.cls_ok (c.s.fact 7 rfl), He.noat_ok (c.s.fact 17 rfl)⟩
  · exact ⟨He.cls_ok (c.s.fact 9 rfl), He.noat_ok (c.s.fact 18 rfl)⟩
theorem fld_straight {P : Program} {K : PySem.W.Frag} {mg : Str → Option Value} (c : Cont P K mg) : FldOk K (gM K) csAll "straight" := by
  intro n hc
  unfold csAll at hc
  simp only [List.mem_cons, List.not_mem_nil, or_false] at hc; rcases hc with rfl | rfl | rfl | rfl
  · exact ⟨He.cls_ok (c.s.fact 3 rfl), He.noat_ok (c.s.fact 19 rfl)⟩
  · exact ⟨He.cls_ok (c.s.fact 5 rfl), He.noat_ok (c.s.fact 20 rfl)⟩
  · exact ⟨He.cls_ok (c.s.fact 7 rfl), He.noat_ok (c.s.fact 21 rfl)⟩
  · exact ⟨He.cls_ok (c.s.fact 9 rfl), He.noat_ok (c.s.fact 22 rfl)⟩
theorem fld_left {P : Program} {K : PySem.W.Frag} {mg : Str → Option Value} (c : Cont P K mg) : FldOk K (gM K) csAll "left" := by
  intro n hc
  unfold csAll at hc
  simp only [List.mem_cons, List.not_mem_nil, or_false] at hc; rcases hc with rfl | rfl | rfl | rfl
  · exact ⟨He.cls_ok (c.s.fact 3 rfl), He.noat_ok (c.s.fact 23 rfl)⟩
  · exact ⟨He.cls_ok (c.s.fact 5 rfl), He.noat_ok (c.s.fact 24 rfl)⟩
  · exact ⟨He.cls_ok (c.s.fact 7 rfl), He.noat_ok (c.s.fact 25 rfl)⟩
  · exact ⟨He.cls_ok (c.s.fact 9 rfl), He.noat_ok (c.s.fact 26 rfl)⟩
theorem fld_right {P : Program} {K : PySem.W.Frag} {mg : Str → Option Value} (c : Cont P K mg) : FldOk K (gM K) csAll "right" := by
  intro n hc
  unfold csAll at hc
  simp only [List.mem_cons, List.not_mem_nil, or_false] at hc; rcases hc with rfl | rfl | rfl | rfl
  · exact ⟨He.cls_ok (c.s.fact 3 rfl), He.noat_ok (c.s.fact 27 rfl)⟩
  · exact ⟨He.cls_ok (c.s.fact 5 rfl), He.noat_ok (c.s.fact 28 rfl)⟩
  · exact ⟨He.cls_ok (c.s.fact 7 rfl), He.noat_ok (c.s.fact 29 rfl)⟩
  · exact ⟨He.cls_ok (c.s.fact 9 rfl), He.noat_ok (c.s.fact 30 rfl)⟩
theorem sok_Aimed_options {P : Program} {w : World} {K : PySem.W.Frag} {mg : Str → Option Value} {base : Heap} (c : Cont P K mg) : SupOk P w K mg base (gM K) 1 (He.ga K "Aimed") [2, 3] "options" 1 [] fs_Aimed_options := by
  intro n hc
  simp only [List.mem_cons, List.not_mem_nil, or_false] at hc; rcases hc with rfl | rfl
  · exact ⟨of_decide_eq_true (c.s.ch 12 rfl), _, He.eqO_ok (c.s.ch 13 rfl), (ok_Rule_options c).mono (by decide)⟩
  · exact ⟨of_decide_eq_true (c.s.ch 14 rfl), _, He.eqO_ok (c.s.ch 15 rfl), (ok_Rule_options c).mono (by decide)⟩
abbrev s_Aimed_options : Stmt := (mem 9 1)
theorem sc_Aimed_options : NScope ["self", "__class__", "told"] ["self"] ["__class__"] (defScope s_Aimed_options) := nscope_by (by decide +kernel)
theorem ok_Aimed_options {P : Program} {w : World} {K : PySem.W.Frag} {mg : Str → Option Value} {base : Heap} (c : Cont P K mg) : FnA P w K mg base (gM K) 2 (He.fAd K ("Aimed", some "options")) 1 [] F_Aimed_options :=
  (c.s.fc 0 (d := e_Aimed_options) rfl).fnA c.sp (ar := "self") ⟨by rfl, by rfl, _, rfl, rfl⟩ sc_Aimed_options (by decide) (fun _ _ _ _ _ _ _ us hl => match us, hl with | [_], _ => rfl) fun cc cda A outer s H E U hr => (sba_cons (sca_put (i := 2) sc_Aimed_options.nd rfl rfl (by decide) (snd_super0 takes_ncx U (sok_Aimed_options c) hr (by decide) rfl (Or.inl rfl) (by decide)))
 (sba_cons (sca_of (sc_asg (snd_tup (sf_cons (snd_fld (fld_right c) (sl_name (i := 0) sl_nil)) (sf_cons (snd_fld (fld_left c) (sl_name (i := 0) sl_nil)) sf_nil)) (pal_cons (pal_cons pal_nil))) (sg_tup rfl (sgs_cons (sg_sub (i := 2) (un1 hr) (snd_str (by rfl))) (sgs_cons (sg_sub (i := 2) (un1 hr) (snd_str (by rfl))) sgs_nil)))))
 (sba_one (sca_of (sc_retO (i := 2) (by decide))))))
theorem sok_Held_options {P : Program} {w : World} {K : PySem.W.Frag} {mg : Str → Option Value} {base : Heap} (c : Cont P K mg) : SupOk P w K mg base (gM K) 2 (He.ga K "Held") [1, 3] "options" 1 [] fs_Held_options := by
  intro n hc
  simp only [List.mem_cons, List.not_mem_nil, or_false] at hc; rcases hc with rfl | rfl
  · exact ⟨of_decide_eq_true (c.s.ch 16 rfl), _, He.eqO_ok (c.s.ch 17 rfl), (ok_Rule_options c).mono (by decide)⟩
  · exact ⟨of_decide_eq_true (c.s.ch 18 rfl), _, He.eqO_ok (c.s.ch 19 rfl), (ok_Aimed_options c).mono (by decide)⟩
abbrev s_Held_options : Stmt := (mem 8 1)
theorem sc_Held_options : NScope ["self", "__class__", "told"] ["self"] ["__class__"] (defScope s_Held_options) := nscope_by (by decide +kernel)
theorem ok_Held_options {P : Program} {w : World} {K : PySem.W.Frag} {mg : Str → Option Value} {base : Heap} (c : Cont P K mg) : FnA P w K mg base (gM K) 3 (He.fAd K ("Held", some "options")) 1 [] F_Held_options :=
  (c.s.fc 1 (d := e_Held_options) rfl).fnA c.sp (ar := "self") ⟨by rfl, by rfl, _, rfl, rfl⟩ sc_Held_options (by decide) (fun _ _ _ _ _ _ _ us hl => match us, hl with | [_], _ => rfl) fun cc cda A outer s H E U hr => (sba_cons (sca_put (i := 2) sc_Held_options.nd rfl rfl (by decide) (snd_super0 takes_ncx U (sok_Held_options c) hr (by decide) rfl (Or.inl rfl) (by decide)))
 (sba_cons (sca_of (sc_asg (snd_tup (sf_cons (snd_fld (fld_straight c) (sl_name (i := 0) sl_nil)) (sf_cons (snd_fld (fld_folded c) (sl_name (i := 0) sl_nil)) sf_nil)) (pal_cons (pal_cons pal_nil))) (sg_tup rfl (sgs_cons (sg_sub (i := 2) (un1 hr) (snd_str (by rfl))) (sgs_cons (sg_sub (i := 2) (un1 hr) (snd_str (by rfl))) sgs_nil)))))
 (sba_one (sca_of (sc_retO (i := 2) (by decide))))))
theorem mmok_options {P : Program} {w : World} {K : PySem.W.Frag} {mg : Str → Option Value} {base : Heap} (c : Cont P K mg) : MethOk P w K mg base (gM K) 3 [0, 1, 2, 3] "options" 1 [] fm_options := by
  intro n hc
  simp only [List.mem_cons, List.not_mem_nil, or_false] at hc; rcases hc with rfl | rfl | rfl | rfl
  · exact ⟨_, He.cls_ok (c.s.fact 3 rfl), He.meth_ok (c.s.fact 31 rfl), (of_decide_eq_true (c.s.ch 20 rfl)).symm ▸ (ok_Rule_options c).mono (by decide)⟩
  · exact ⟨_, He.cls_ok (c.s.fact 5 rfl), He.meth_ok (c.s.fact 32 rfl), (of_decide_eq_true (c.s.ch 21 rfl)).symm ▸ (ok_Held_options c).mono (by decide)⟩
  · exact ⟨_, He.cls_ok (c.s.fact 7 rfl), He.meth_ok (c.s.fact 33 rfl), (of_decide_eq_true (c.s.ch 22 rfl)).symm ▸ (ok_Aimed_options c).mono (by decide)⟩
  · exact ⟨_, He.cls_ok (c.s.fact 9 rfl), He.meth_ok (c.s.fact 34 rfl), (of_decide_eq_true (c.s.ch 23 rfl)).symm ▸ (ok_Held_options c).mono (by decide)⟩
abbrev s__law_is_length : Stmt := (top 22)
theorem sc__law_is_length : FnScope ["_law_value"] ["_law_value"] (defScope s__law_is_length) := ⟨rfl, rfl, rfl, by decide +kernel, rfl, by decide +kernel, by decide +kernel⟩
theorem ok__law_is_length {P : Program} {w : World} {K : PySem.W.Frag} {mg : Str → Option Value} {base : Heap} (c : Cont P K mg) : FnH P w K mg base (gM K) 1 "_law_is_length" 1 [] F__law_is_length := by
  obtain ⟨fd, F⟩ := c.s.def_ 2 (d := d__law_is_length) rfl
  exact FnH.of F sc__law_is_length (by decide) (c.glo 38 rfl) (fun _ _ _ _ _ _ us hl => match us, hl with | [_], _ => rfl) fun cdv A outer s H E hr => (sb_one (sc_retD (snd_andV (snd_isi (isi_int c) (v := .ty "int") (.ty _) (pe_bltn rfl (c.free 36 rfl) (by rfl) rfl) (c.free 12 rfl) (sl_name (i := 0) sl_nil) (pal_cons (pal_cons pal_nil))) (snd_andV (snd_notV (snd_isi (isi_bool c) (v := .ty "bool") (.ty _) (pe_bltn rfl (c.free 37 rfl) (by rfl) rfl) (c.free 12 rfl) (sl_name (i := 0) sl_nil) (pal_cons (pal_cons pal_nil)))) (snd_oneV (snd_chain opS_lt opS_lt (sf_cons snd_int (sf_cons (snd_name (i := 0)) sf_nil)) snd_int))))))
theorem exy_RodsError {P : Program} {K : PySem.W.Frag} {mg : Str → Option Value} (c : Cont P K mg) : ∀ n ∈ ([11] : List Nat), PySem.W.exmOne K (.ref (gM K n)) (.ref (He.ga K "RodsError")) = some true := by
    intro n hc
    simp only [List.mem_cons, List.not_mem_nil, or_false] at hc; subst hc
    · exact of_decide_eq_true (c.s.ch 24 rfl)
theorem exn_RodsError {P : Program} {K : PySem.W.Frag} {mg : Str → Option Value} (c : Cont P K mg) : ∀ n ∈ ([9, 12] : List Nat), PySem.W.exmOne K (.ref (gM K n)) (.ref (He.ga K "RodsError")) = some false := by
    intro n hc
    simp only [List.mem_cons, List.not_mem_nil, or_false] at hc; rcases hc with rfl | rfl
    · exact of_decide_eq_true (c.s.ch 25 rfl)
    · exact of_decide_eq_true (c.s.ch 26 rfl)
abbrev s__law_outcome : Stmt := (top 20)
theorem sc__law_outcome : FnScope ["_law_action"] ["_law_action"] (defScope s__law_outcome) := ⟨rfl, rfl, rfl, by decide +kernel, rfl, by decide +kernel, by decide +kernel⟩
theorem tk__law_outcome {P : Program} {w : World} {K : PySem.W.Frag} {mg : Str → Option Value} {base : Heap} (c : Cont P K mg) : TakL P w K mg base (gM K) "_law_outcome" "_law_action" (defBody s__law_outcome) (hsOf (defBody s__law_outcome)) l__law_outcome := by
  obtain ⟨fd, F⟩ := c.s.def_ 3 (d := d__law_outcome) rfl
  exact TakL.of F sc__law_outcome (c.glo 40 rfl) rfl (Or.inl rfl) (fun _ => rfl) (fun _ _ _ _ _ _ us hl => match us, hl with | [_], _ => rfl) (fun cdv A stack s H => (HdR.cons ⟨rfl, by decide, Or.inl (c.glo 39 rfl)⟩ (exy_RodsError c) (exn_RodsError c) (fun a oe pn e => (sb_one (sc_retD (snd_tup (sf_cons (snd_str (by rfl)) sf_nil) (pal_cons pal_nil))))) HdR.nil)) (by
    intro q hq
    unfold l__law_outcome at hq
    simp only [List.mem_cons, List.not_mem_nil, or_false] at hq
    subst hq
    all_goals exact ⟨fun _ => some _, fun _ _ => rfl⟩)
abbrev s_is_integer : Stmt := (top 6)
theorem sc_is_integer : FnScope ["thing"] ["thing"] (defScope s_is_integer) := ⟨rfl, rfl, rfl, by decide +kernel, rfl, by decide +kernel, by decide +kernel⟩
theorem ok_is_integer {P : Program} {w : World} {K : PySem.W.Frag} {mg : Str → Option Value} {base : Heap} (c : Cont P K mg) : FnH P w K mg base (gM K) 1 "is_integer" 1 [] F_is_integer := by
  obtain ⟨fd, F⟩ := c.s.def_ 4 (d := d_is_integer) rfl
  exact FnH.of F sc_is_integer (by decide) (c.glo 41 rfl) (fun _ _ _ _ _ _ us hl => match us, hl with | [_], _ => rfl) fun cdv A outer s H E hr => (sb_one (sc_retD (snd_andV (snd_isi (isi_int c) (v := .ty "int") (.ty _) (pe_bltn rfl (c.free 36 rfl) (by rfl) rfl) (c.free 12 rfl) (sl_name (i := 0) sl_nil) (pal_cons (pal_cons pal_nil))) (snd_oneV (snd_notV (snd_isi (isi_bool c) (v := .ty "bool") (.ty _) (pe_bltn rfl (c.free 37 rfl) (by rfl) rfl) (c.free 12 rfl) (sl_name (i := 0) sl_nil) (pal_cons (pal_cons pal_nil))))))))
abbrev s_Rule_is_rod : Stmt := (mem 7 5)
theorem sc_Rule_is_rod : FnScope ["thing"] ["thing"] (defScope s_Rule_is_rod) := ⟨rfl, rfl, rfl, by decide +kernel, rfl, by decide +kernel, by decide +kernel⟩
theorem ok_Rule_is_rod {P : Program} {w : World} {K : PySem.W.Frag} {mg : Str → Option Value} {base : Heap} (c : Cont P K mg) : FnA P w K mg base (gM K) 2 (wfA "Rule" "is_rod" "staticmethod" K) 1 [] F_Rule_is_rod := by
  obtain ⟨h1, h2, fd, F⟩ := c.s.fw 2 (d := w_Rule_is_rod) rfl
  exact FnA.of F h1 h2 sc_Rule_is_rod (by decide) (fun _ _ _ _ _ _ us hl => match us, hl with | [_], _ => rfl) fun cdv A outer s H E hr => (sb_one (sc_retD (snd_andV (snd_frz (snd_callH takes_cx (ok_is_integer c) hr (by decide) (sa_d (snd_name (i := 0)) sa_nil) rfl (pal_cons pal_nil))) (snd_oneV (snd_chain opS_le opS_le (sf_cons snd_int (sf_cons (snd_name (i := 0)) sf_nil)) (Exists.elim (cvalB_ok (c.s.ch 28 rfl)) fun _ hcv => snd_cvalI (c.glo 35 rfl) (readB_ok (c.s.ch 27 rfl)) hcv))))))
abbrev s_Rule___init__ : Stmt := (mem 7 2)
theorem sc_Rule___init___Rule_o : FnScope ["self", "rods", "rod"] ["self", "rods"] (defScope s_Rule___init__) := ⟨rfl, rfl, rfl, by decide +kernel, rfl, by decide +kernel, by decide +kernel⟩
theorem ok_Rule___init___Rule_o {P : Program} {w : World} {K : PySem.W.Frag} {mg : Str → Option Value} {base : Heap} (c : Cont P K mg) : FnI P w K mg base (gM K) 3 (He.fAd K ("Rule", some "__init__")) [] F_Rule___init___Rule_o := by
  obtain ⟨fd, F⟩ := c.s.def_ 5 (d := d_Rule___init__) rfl
  obtain ⟨oc, od, dV, kV, doc, pm, an, cdv, ct, osl, rfl, lk, hcd, hD, _⟩ := F.ex
  rcases hD with ⟨_, rfl⟩ | ⟨e, _⟩
  · exact fnI_star lk hcd sc_Rule___init___Rule_o (fun a => rfl) (fun a r rs => rfl) fun A outer s H E hr => (sb_cons (sc_if (snd_not (snd_tchain opS_le opS_le (sf_cons snd_int (sf_cons (snd_callB callS_len rfl (c.free 42 rfl) (by rfl) (sl_name (i := 1) sl_nil) (pal_cons pal_nil)) sf_nil)) (Exists.elim (cvalB_ok (c.s.ch 31 rfl)) fun _ hcv => snd_cvalI (c.glo 35 rfl) (readB_ok (c.s.ch 27 rfl)) hcv))) (sb_one (sc_raise (c := 11) takes_cx (excB_ok (c.s.ch 30 rfl)) (c.glo 39 rfl) rfl)) sb_nil)
 (sb_cons (sc_for owns_cx rfl (si_it (snd_name (i := 1))) (sg_name sc_Rule___init___Rule_o.nd rfl (by first | exact Or.inl rfl | exact Or.inr rfl) (by decide)) (sb_one (sc_if (snd_not (snd_tru (snd_frz (Exists.elim (statB_ok (c.s.ch 29 rfl)) fun _ hst => snd_static takes_cx (c.glo 35 rfl) (readB_ok (c.s.ch 27 rfl)) hst (ok_Rule_is_rod c) hr (by decide) (sa_d (snd_name (i := 2)) sa_nil) rfl (pal_cons pal_nil))))) (sb_one (sc_raise (c := 11) takes_cx (excB_ok (c.s.ch 30 rfl)) (c.glo 39 rfl) rfl)) sb_nil)))
 (sb_one (sc_fld (i := 0) (fld_lengths c) (snd_name (i := 1))))))
  · exact absurd rfl e
theorem mk_Rule {P : Program} {K : PySem.W.Frag} {mg : Str → Option Value} (c : Cont P K mg) : Mk K (gM K 0) (He.ma K (He.ga K "Rule") "__init__") := He.mkr_ok (c.s.fact 43 rfl)
theorem mok_Rule___init___Rule_o {P : Program} {w : World} {K : PySem.W.Frag} {mg : Str → Option Value} {base : Heap} (c : Cont P K mg) : FnI P w K mg base (gM K) 3 (He.ma K (He.ga K "Rule") "__init__") [] F_Rule___init___Rule_o := (of_decide_eq_true (c.s.ch 32 rfl)).symm ▸ ok_Rule___init___Rule_o c
abbrev s__law_rule : Stmt := (top 23)
theorem sc__law_rule : FnScope ["_law_rods_here"] ["_law_rods_here"] (defScope s__law_rule) := ⟨rfl, rfl, rfl, by decide +kernel, rfl, by decide +kernel, by decide +kernel⟩
theorem ok__law_rule {P : Program} {w : World} {K : PySem.W.Frag} {mg : Str → Option Value} {base : Heap} (c : Cont P K mg) : FnH P w K mg base (gM K) 5 "_law_rule" 1 [] F__law_rule := by
  obtain ⟨fd, F⟩ := c.s.def_ 6 (d := d__law_rule) rfl
  exact FnH.of F sc__law_rule (by decide) (c.glo 44 rfl) (fun _ _ _ _ _ _ us hl => match us, hl with | [_], _ => rfl) fun cdv A outer s H E hr => (sb_cons (sc_if (snd_tcmp (opS_eq hr.units) (by rfl) (sl_cons (snd_callB callS_len rfl (c.free 42 rfl) (by rfl) (sl_name (i := 0) sl_nil) (pal_cons pal_nil)) (sl_cons snd_int sl_nil))) (sb_one (sc_ret (snd_make0 (c := 0) takes_cx (mk_Rule c) (mok_Rule___init___Rule_o c) hr (by decide) rfl (c.glo 35 rfl)))) sb_nil)
 (sb_cons (sc_if (snd_tcmp (opS_eq hr.units) (by rfl) (sl_cons (snd_callB callS_len rfl (c.free 42 rfl) (by rfl) (sl_name (i := 0) sl_nil) (pal_cons pal_nil)) (sl_cons snd_int sl_nil))) (sb_one (sc_ret (snd_makeX (c := 0) takes_cx (mk_Rule c) (mok_Rule___init___Rule_o c) hr (by decide) rfl (c.glo 35 rfl) (pal_cons pal_nil) (sf_cons (snd_ix (un1 hr) (sl_name (i := 0) (sl_cons snd_int sl_nil)) (fun _ _ => rfl)) sf_nil) sk_nil (by decide) (by decide)))) sb_nil)
 (sb_cons (sc_if (snd_tcmp (opS_eq hr.units) (by rfl) (sl_cons (snd_callB callS_len rfl (c.free 42 rfl) (by rfl) (sl_name (i := 0) sl_nil) (pal_cons pal_nil)) (sl_cons snd_int sl_nil))) (sb_one (sc_ret (snd_makeX (c := 0) takes_cx (mk_Rule c) (mok_Rule___init___Rule_o c) hr (by decide) rfl (c.glo 35 rfl) (pal_cons (pal_cons pal_nil)) (sf_cons (snd_ix (un1 hr) (sl_name (i := 0) (sl_cons snd_int sl_nil)) (fun _ _ => rfl)) (sf_cons (snd_ix (un1 hr) (sl_name (i := 0) (sl_cons snd_int sl_nil)) (fun _ _ => rfl)) sf_nil)) sk_nil (by decide) (by decide)))) sb_nil)
 (sb_cons (sc_if (snd_tcmp (opS_eq hr.units) (by rfl) (sl_cons (snd_callB callS_len rfl (c.free 42 rfl) (by rfl) (sl_name (i := 0) sl_nil) (pal_cons pal_nil)) (sl_cons snd_int sl_nil))) (sb_one (sc_ret (snd_makeX (c := 0) takes_cx (mk_Rule c) (mok_Rule___init___Rule_o c) hr (by decide) rfl (c.glo 35 rfl) (pal_cons (pal_cons (pal_cons pal_nil))) (by refine sf_cons ?_ ?_; (· exact (snd_ix (un1 hr) (sl_name (i := 0) (sl_cons snd_int sl_nil)) (fun _ _ => rfl))); (refine sf_cons ?_ ?_; (· exact (snd_ix (un1 hr) (sl_name (i := 0) (sl_cons snd_int sl_nil)) (fun _ _ => rfl))); (refine sf_cons ?_ ?_; (· exact (snd_ix (un1 hr) (sl_name (i := 0) (sl_cons snd_int sl_nil)) (fun _ _ => rfl))); (exact sf_nil)))) sk_nil (by decide) (by decide)))) sb_nil)
 (sb_cons (sc_if (snd_tcmp (opS_eq hr.units) (by rfl) (sl_cons (snd_callB callS_len rfl (c.free 42 rfl) (by rfl) (sl_name (i := 0) sl_nil) (pal_cons pal_nil)) (sl_cons snd_int sl_nil))) (sb_one (sc_ret (snd_makeX (c := 0) takes_cx (mk_Rule c) (mok_Rule___init___Rule_o c) hr (by decide) rfl (c.glo 35 rfl) (pal_cons (pal_cons (pal_cons (pal_cons pal_nil)))) (by refine sf_cons ?_ ?_; (· exact (snd_ix (un1 hr) (sl_name (i := 0) (sl_cons snd_int sl_nil)) (fun _ _ => rfl))); (refine sf_cons ?_ ?_; (· exact (snd_ix (un1 hr) (sl_name (i := 0) (sl_cons snd_int sl_nil)) (fun _ _ => rfl))); (refine sf_cons ?_ ?_; (· exact (snd_ix (un1 hr) (sl_name (i := 0) (sl_cons snd_int sl_nil)) (fun _ _ => rfl))); (refine sf_cons ?_ ?_; (· exact (snd_ix (un1 hr) (sl_name (i := 0) (sl_cons snd_int sl_nil)) (fun _ _ => rfl))); (exact sf_nil))))) sk_nil (by decide) (by decide)))) sb_nil)
 (sb_cons (sc_if (snd_tcmp (opS_eq hr.units) (by rfl) (sl_cons (snd_callB callS_len rfl (c.free 42 rfl) (by rfl) (sl_name (i := 0) sl_nil) (pal_cons pal_nil)) (sl_cons snd_int sl_nil))) (sb_one (sc_ret (snd_makeX (c := 0) takes_cx (mk_Rule c) (mok_Rule___init___Rule_o c) hr (by decide) rfl (c.glo 35 rfl) (pal_cons (pal_cons (pal_cons (pal_cons (pal_cons pal_nil))))) (by refine sf_cons ?_ ?_; (· exact (snd_ix (un1 hr) (sl_name (i := 0) (sl_cons snd_int sl_nil)) (fun _ _ => rfl))); (refine sf_cons ?_ ?_; (· exact (snd_ix (un1 hr) (sl_name (i := 0) (sl_cons snd_int sl_nil)) (fun _ _ => rfl))); (refine sf_cons ?_ ?_; (· exact (snd_ix (un1 hr) (sl_name (i := 0) (sl_cons snd_int sl_nil)) (fun _ _ => rfl))); (refine sf_cons ?_ ?_; (· exact (snd_ix (un1 hr) (sl_name (i := 0) (sl_cons snd_int sl_nil)) (fun _ _ => rfl))); (refine sf_cons ?_ ?_; (· exact (snd_ix (un1 hr) (sl_name (i := 0) (sl_cons snd_int sl_nil)) (fun _ _ => rfl))); (exact sf_nil)))))) sk_nil (by decide) (by decide)))) sb_nil)
 (sb_one (sc_ret (snd_makeX (c := 0) takes_cx (mk_Rule c) (mok_Rule___init___Rule_o c) hr (by decide) rfl (c.glo 35 rfl) (pal_cons (pal_cons (pal_cons (pal_cons (pal_cons (pal_cons pal_nil)))))) (by refine sf_cons ?_ ?_; (· exact (snd_ix (un1 hr) (sl_name (i := 0) (sl_cons snd_int sl_nil)) (fun _ _ => rfl))); (refine sf_cons ?_ ?_; (· exact (snd_ix (un1 hr) (sl_name (i := 0) (sl_cons snd_int sl_nil)) (fun _ _ => rfl))); (refine sf_cons ?_ ?_; (· exact (snd_ix (un1 hr) (sl_name (i := 0) (sl_cons snd_int sl_nil)) (fun _ _ => rfl))); (refine sf_cons ?_ ?_; (· exact (snd_ix (un1 hr) (sl_name (i := 0) (sl_cons snd_int sl_nil)) (fun _ _ => rfl))); (refine sf_cons ?_ ?_; (· exact (snd_ix (un1 hr) (sl_name (i := 0) (sl_cons snd_int sl_nil)) (fun _ _ => rfl))); (refine sf_cons ?_ ?_; (· exact (snd_ix (un1 hr) (sl_name (i := 0) (sl_cons snd_int sl_nil)) (fun _ _ => rfl))); (exact sf_nil))))))) sk_nil (by decide) (by decide))))))))))
abbrev s__law_is_right : Stmt := (top 24)
theorem sc__law_is_right : FnScope ["_law_rods_here", "_law_kept", "_law_told", "_law_rod", "_law_rule_here", "_law_seen", "_law_old"] ["_law_rods_here"] (defScope s__law_is_right) := ⟨rfl, rfl, rfl, by decide +kernel, rfl, by decide +kernel, by decide +kernel⟩
theorem ok__law_is_right {P : Program} {w : World} {K : PySem.W.Frag} {mg : Str → Option Value} {base : Heap} (c : Cont P K mg) (tb : TBs K mg base lamL) : FnHG P w K mg base (gM K) 8 "_law_is_right" 1 [] F__law_is_right := by
  obtain ⟨fd, F⟩ := c.s.def_ 7 (d := d__law_is_right) rfl
  exact FnHG.ofL (x := "_law_is_right") F sc__law_is_right (by decide) (c.glo 45 rfl) (fun _ _ _ _ _ _ us hl => match us, hl with | [_], _ => rfl) fun A outer s H E hr hgd => (sb_cons (sc_set (i := 1) sc__law_is_right.nd rfl (by first | exact Or.inl rfl | exact Or.inr rfl) (by decide) (snd_callB (callS_reprN hgd hr.units (sysB_ok (c.s.ch 0 rfl))) rfl (c.free 0 rfl) (by rfl) (sl_name (i := 0) sl_nil) (pal_cons pal_nil)))
 (sb_cons (sc_put (i := 2) sc__law_is_right.nd rfl (by first | exact Or.inl rfl | exact Or.inr rfl) (by decide) (snd_lamX (k := 5) (d := "_law_is_right") (L := lamL) (tk__law_outcome c) tb (by decide) (by decide) (c.s.ch 33 rfl) rfl (by first | rfl | decide) (hr.mono (by decide)) (LamX.lamS_by (by rfl)) (fun A outer s H E f c' hr => (snd_frz (snd_callH takes_lam (ok__law_rule c) hr (by decide) (sa_d (snd_name (i := 0)) sa_nil) rfl (pal_cons pal_nil)))) (by rfl)))
 (sb_cons (sc_if (snd_wt (snd_or (snd_tcmp (opS_eqE hr.units) (by rfl) (sl_name (i := 0) (sl_cons (snd_frz (snd_lst sf_nil pal_nil)) sl_nil))) (snd_or1 (snd_tcmp (opS_ne hr.units) (by rfl) (sl_cons (snd_frz (snd_lc (own := [("_law_rod", 3)]) (pr := [0, 1, 2, 4, 5, 6]) rfl sc__law_is_right.nd (blkOk_by (by rfl)) (prs (by rfl)) (si_it (snd_name (i := 0))) (by intro X2 hX2; obtain ⟨_, _, _, _, _, rfl⟩ := hX2; exact (sg_name sc__law_is_right.nd rfl (by first | exact Or.inl rfl | exact Or.inr rfl) (by decide))) (by intro X2 hX2; obtain ⟨_, _, _, _, _, rfl⟩ := hX2; exact (scs_one (snd_not (snd_tru (snd_frz (snd_callH takes0 (ok__law_is_length c) hr (by decide) (sa_d (snd_name (i := 3)) sa_nil) rfl (pal_cons pal_nil))))))) (by intro X2 hX2; obtain ⟨_, _, _, _, _, rfl⟩ := hX2; exact snd_int))) (sl_cons (snd_frz (snd_lst sf_nil pal_nil)) sl_nil)))))) (sb_one (sc_retD (snd_andV (snd_cmp (opS_eq hr.units) (by rfl) (sl_name (i := 2) (sl_cons (snd_tup (sf_cons (snd_str (by rfl)) sf_nil) (pal_cons pal_nil)) sl_nil))) (snd_oneV (snd_cmp (opS_eq hr.units) (by rfl) (sl_cons (snd_callB (callS_reprN hgd hr.units (sysB_ok (c.s.ch 0 rfl))) rfl (c.free 0 rfl) (by rfl) (sl_name (i := 0) sl_nil) (pal_cons pal_nil)) (sl_name (i := 1) sl_nil))))))) sb_nil)
 (sb_cons (sc_if (snd_wt (snd_or (snd_tcmp (opS_ne hr.units) (by rfl) (sl_cons (snd_ix (un1 hr) (sl_name (i := 2) (sl_cons snd_int sl_nil)) (fun _ _ => rfl)) (sl_cons (snd_str (by rfl)) sl_nil))) (snd_or1 (snd_not (snd_tru (snd_isi (isi_Rule c) (v := .ref (He.ga _ "Rule")) (.own _) (pe_glob rfl (c.glo 35 rfl) (v := .ref (He.ga _ "Rule")) rfl) (c.free 12 rfl) (sl_cons (snd_ix (un1 hr) (sl_name (i := 2) (sl_cons snd_int sl_nil)) (fun _ _ => rfl)) sl_nil) (pal_cons (pal_cons pal_nil)))))))) (sb_one (sc_retD snd_bl)) sb_nil)
 (sb_cons (sc_set (i := 4) sc__law_is_right.nd rfl (by first | exact Or.inl rfl | exact Or.inr rfl) (by decide) (snd_ix (un1 hr) (sl_name (i := 2) (sl_cons snd_int sl_nil)) (fun _ _ => rfl)))
 (sb_cons (sc_put (i := 5) sc__law_is_right.nd rfl (by first | exact Or.inl rfl | exact Or.inr rfl) (by decide) (snd_lst (by refine sf_cons ?_ ?_; (· exact (snd_frz (snd_prop (pmok_rods c) hr (by decide) (snd_name (i := 4))))); (refine sf_cons ?_ ?_; (· exact (snd_frz (snd_prop (pmok_total c) hr (by decide) (snd_name (i := 4))))); (refine sf_cons ?_ ?_; (· exact (snd_frz (snd_meth0 takes_cx (mmok_options c) hr (by decide) (snd_name (i := 4))))); (refine sf_cons ?_ ?_; (· exact (snd_self (cs := [0]) (i := 4) hr.units (by intro n hc; simp only [List.mem_cons, List.not_mem_nil, or_false] at hc; subst hc; exact eqoB_ok (c.s.ch 9 rfl)) (by rfl))); (exact sf_nil))))) (pal_cons (pal_cons (pal_cons (pal_cons pal_nil))))))
 (sb_cons (sc_if (snd_wt (snd_or (snd_not (snd_tru (snd_frz (snd_callHG takes_cx (ok__law_is_equal c) hr (by decide) hgd (sa_d (snd_name (i := 5)) (sa_d (snd_frz (snd_lst (by refine sf_cons ?_ ?_; (· exact (snd_name (i := 0))); (refine sf_cons ?_ ?_; (· exact (snd_callB (callS_sum rfl) rfl (c.free 2 rfl) (by rfl) (sl_name (i := 0) sl_nil) (pal_cons pal_nil))); (refine sf_cons ?_ ?_; (· exact (snd_frz snd_d0)); (refine sf_cons ?_ ?_; (· exact snd_bl); (exact sf_nil))))) (pal_cons (pal_cons (pal_cons (pal_cons pal_nil)))))) sa_nil)) rfl (pal_cons (pal_cons pal_nil)))))) (snd_or1 (snd_tru (snd_isT (isi_Held c) (isi_Aimed c) (.own _) (.own _) (pe_glob rfl (c.glo 13 rfl) (v := .ref (He.ga _ "Held")) rfl) (pe_glob rfl (c.glo 14 rfl) (v := .ref (He.ga _ "Aimed")) rfl) (c.free 12 rfl) (sl_name (i := 4) sl_nil) (pal_cons (pal_cons pal_nil))))))) (sb_one (sc_retD snd_bl)) sb_nil)
 (sb_cons (sc_put (i := 6) sc__law_is_right.nd rfl (by first | exact Or.inl rfl | exact Or.inr rfl) (by decide) (snd_prop (pmok_rods c) hr (by decide) (snd_name (i := 4))))
 (sb_cons (sc_exD (snd_app (i := 6) snd_int))
 (sb_cons (sc_asg snd_int (sg_sub (i := 6) (un1 hr) snd_int))
 (sb_one (sc_retD (snd_andV (snd_frz (snd_callHG takes_cx (ok__law_is_equal c) hr (by decide) hgd (sa_d (snd_frz (snd_lst (sf_cons (snd_frz (snd_prop (pmok_rods c) hr (by decide) (snd_name (i := 4)))) (sf_cons (snd_frz (snd_prop (pmok_total c) hr (by decide) (snd_name (i := 4)))) sf_nil)) (pal_cons (pal_cons pal_nil)))) (sa_d (snd_frz (snd_lst (sf_cons (snd_name (i := 0)) (sf_cons (snd_callB (callS_sum rfl) rfl (c.free 2 rfl) (by rfl) (sl_name (i := 0) sl_nil) (pal_cons pal_nil)) sf_nil)) (pal_cons (pal_cons pal_nil)))) sa_nil)) rfl (pal_cons (pal_cons pal_nil)))) (snd_oneV (snd_cmp (opS_eq hr.units) (by rfl) (sl_cons (snd_callB (callS_reprN hgd hr.units (sysB_ok (c.s.ch 0 rfl))) rfl (c.free 0 rfl) (by rfl) (sl_name (i := 0) sl_nil) (pal_cons pal_nil)) (sl_name (i := 1) sl_nil)))))))))))))))))
abbrev s__law_draw : Stmt := (top 16)
theorem sc__law_draw : FnScope ["_law_source_here", "_law_many", "_law_found", "_law_mixed"] ["_law_source_here", "_law_many"] (defScope s__law_draw) := ⟨rfl, rfl, rfl, by decide +kernel, rfl, by decide +kernel, by decide +kernel⟩
theorem ok__law_draw {P : Program} {w : World} {K : PySem.W.Frag} {mg : Str → Option Value} {base : Heap} (c : Cont P K mg) : FnH P w K mg base (gM K) 1 "_law_draw" 2 [0] F__law_draw := by
  obtain ⟨fd, F⟩ := c.s.def_ 8 (d := d__law_draw) rfl
  exact FnH.of F sc__law_draw (by decide) (c.glo 49 rfl) (fun _ _ _ _ _ _ us hl => match us, hl with | [_, _], _ => rfl) fun cdv A outer s H E hr => (sb_cons (sc_if (snd_tcmp opS_gt (by rfl) (sl_cons (snd_ix (un1 hr) (sl_name (i := 0) (sl_cons snd_int sl_nil)) (fun _ _ => rfl)) (sl_cons snd_int sl_nil))) (sb_cons (sc_set (i := 2) sc__law_draw.nd rfl (by first | exact Or.inl rfl | exact Or.inr rfl) (by decide) (snd_bin opS_mod (sl_cons (snd_ix (un1 hr) (sl_name (i := 0) (sl_cons snd_int sl_nil)) (fun _ _ => rfl)) (sl_name (i := 1) sl_nil))))
 (sb_cons (sc_asg (snd_bin opS_div (sl_cons (snd_ix (un1 hr) (sl_name (i := 0) (sl_cons snd_int sl_nil)) (fun _ _ => rfl)) (sl_name (i := 1) sl_nil))) (sg_sub (i := 0) (un1 hr) snd_int))
 (sb_one (sc_retO (i := 2) (by decide))))) sb_nil)
 (sb_cons (sc_asg (snd_bin opS_add (sl_cons (snd_ix (un1 hr) (sl_name (i := 0) (sl_cons snd_int sl_nil)) (fun _ _ => rfl)) (sl_cons snd_int sl_nil))) (sg_sub (i := 0) (un1 hr) snd_int))
 (sb_cons (sc_asg (snd_bin opS_mod (sl_cons (snd_bin opS_add (sl_cons (snd_bin opS_add (sl_cons (snd_bin opS_mul (sl_cons (snd_ix (un1 hr) (sl_name (i := 0) (sl_cons snd_int sl_nil)) (fun _ _ => rfl)) (sl_cons snd_int sl_nil))) (sl_cons (snd_bin opS_mul (sl_cons snd_int (sl_cons (snd_ix (un1 hr) (sl_name (i := 0) (sl_cons snd_int sl_nil)) (fun _ _ => rfl)) sl_nil))) sl_nil))) (sl_cons snd_int sl_nil))) (sl_cons snd_int sl_nil))) (sg_sub (i := 0) (un1 hr) snd_int))
 (sb_cons (sc_set (i := 3) sc__law_draw.nd rfl (by first | exact Or.inl rfl | exact Or.inr rfl) (by decide) (snd_bin opS_mod (sl_cons (snd_bin opS_add (sl_cons (snd_bin opS_add (sl_cons (snd_bin opS_mul (sl_cons (snd_ix (un1 hr) (sl_name (i := 0) (sl_cons snd_int sl_nil)) (fun _ _ => rfl)) (sl_cons (snd_ix (un1 hr) (sl_name (i := 0) (sl_cons snd_int sl_nil)) (fun _ _ => rfl)) sl_nil))) (sl_cons (snd_bin opS_mul (sl_cons snd_int (sl_cons (snd_ix (un1 hr) (sl_name (i := 0) (sl_cons snd_int sl_nil)) (fun _ _ => rfl)) sl_nil))) sl_nil))) (sl_cons snd_int sl_nil))) (sl_cons snd_int sl_nil))))
 (sb_cons (sc_set (i := 3) sc__law_draw.nd rfl (by first | exact Or.inl rfl | exact Or.inr rfl) (by decide) (snd_bin opS_mod (sl_cons (snd_bin opS_add (sl_cons (snd_bin opS_mul (sl_name (i := 3) (sl_name (i := 3) sl_nil))) (sl_cons (snd_bin opS_mul (sl_cons snd_int (sl_name (i := 3) sl_nil))) sl_nil))) (sl_cons snd_int sl_nil))))
 (sb_one (sc_retD (snd_bin opS_mod (sl_cons (snd_bin opS_div (sl_name (i := 3) (sl_cons snd_int sl_nil))) (sl_name (i := 1) sl_nil))))))))))
abbrev s__law_choose : Stmt := (top 17)
theorem sc__law_choose : FnScope ["_law_source_here", "_law_values"] ["_law_source_here", "_law_values"] (defScope s__law_choose) := ⟨rfl, rfl, rfl, by decide +kernel, rfl, by decide +kernel, by decide +kernel⟩
theorem ok__law_choose {P : Program} {w : World} {K : PySem.W.Frag} {mg : Str → Option Value} {base : Heap} (c : Cont P K mg) : FnH P w K mg base (gM K) 2 "_law_choose" 2 [0] F__law_choose := by
  obtain ⟨fd, F⟩ := c.s.def_ 9 (d := d__law_choose) rfl
  exact FnH.of F sc__law_choose (by decide) (c.glo 50 rfl) (fun _ _ _ _ _ _ us hl => match us, hl with | [_, _], _ => rfl) fun cdv A outer s H E hr => (sb_one (sc_retD (snd_ix (un1 hr) (sl_name (i := 1) (sl_cons (snd_frz (snd_callH takes_cx (ok__law_draw c) hr (by decide) (sa_io (i := 0) (sa_d (snd_callB callS_len rfl (c.free 42 rfl) (by rfl) (sl_name (i := 1) sl_nil) (pal_cons pal_nil)) sa_nil)) rfl (pal_cons (pal_cons pal_nil)))) sl_nil)) (fun _ _ => rfl))))
abbrev s__law_odd : Stmt := (top 21)
theorem sc__law_odd : FnScope ["_law_source_here", "_law_values"] ["_law_source_here"] (defScope s__law_odd) := ⟨rfl, rfl, rfl, by decide +kernel, rfl, by decide +kernel, by decide +kernel⟩
theorem ok__law_odd {P : Program} {w : World} {K : PySem.W.Frag} {mg : Str → Option Value} {base : Heap} (c : Cont P K mg) : FnH P w K mg base (gM K) 3 "_law_odd" 1 [0] F__law_odd := by
  obtain ⟨fd, F⟩ := c.s.def_ 10 (d := d__law_odd) rfl
  exact FnH.of F sc__law_odd (by decide) (c.glo 51 rfl) (fun _ _ _ _ _ _ us hl => match us, hl with | [_], _ => rfl) fun cdv A outer s H E hr => (sb_cons (sc_put (i := 1) sc__law_odd.nd rfl (by first | exact Or.inl rfl | exact Or.inr rfl) (by decide) (by refine snd_lst ?_ ?_; (· exact (by refine sf_cons ?_ ?_; (· exact snd_int); (refine sf_cons ?_ ?_; (· exact (snd_un unS_neg (sl_cons snd_int sl_nil))); (refine sf_cons ?_ ?_; (· exact snd_int); (refine sf_cons ?_ ?_; (· exact snd_int); (refine sf_cons ?_ ?_; (· exact snd_int); (refine sf_cons ?_ ?_; (· exact snd_int); (refine sf_cons ?_ ?_; (· exact (snd_bin opS_pow (sl_cons snd_int (sl_cons snd_int sl_nil)))); (refine sf_cons ?_ ?_; (· exact (snd_un unS_neg (sl_cons snd_int sl_nil))); (refine sf_cons ?_ ?_; (· exact snd_bl); (refine sf_cons ?_ ?_; (· exact snd_bl); (refine sf_cons ?_ ?_; (· exact snd_non); (refine sf_cons ?_ ?_; (· exact (snd_str (by rfl))); (refine sf_cons ?_ ?_; (· exact (snd_str (by rfl))); (refine sf_cons ?_ ?_; (· exact (snd_tup sf_nil pal_nil)); (refine sf_cons ?_ ?_; (· exact (snd_tup (sf_cons snd_int sf_nil) (pal_cons pal_nil))); (refine sf_cons ?_ ?_; (· exact (snd_frz (snd_lst sf_nil pal_nil))); (refine sf_cons ?_ ?_; (· exact (snd_frz (snd_lst (sf_cons snd_int sf_nil) (pal_cons pal_nil)))); (refine sf_cons ?_ ?_; (· exact (snd_frz snd_d0)); (refine sf_cons ?_ ?_; (· exact (snd_frz (snd_disp (sp_cons snd_int snd_int sp_nil) (pps_cons pe_run pe_run pps_nil) rfl rfl (by simp) (by decide)))); (refine sf_cons ?_ ?_; (· exact snd_int); (exact sf_nil)))))))))))))))))))))); (· exact (pal_cons (pal_cons (pal_cons (pal_cons (pal_cons (pal_cons (pal_cons (pal_cons (pal_cons (pal_cons (pal_cons (pal_cons (pal_cons (pal_cons (pal_cons (pal_cons (pal_cons (pal_cons (pal_cons (pal_cons pal_nil)))))))))))))))))))))))
 (sb_one (sc_ret (snd_callH takes_cx (ok__law_choose c) hr (by decide) (sa_io (i := 0) (sa_d (snd_name (i := 1)) sa_nil)) rfl (pal_cons (pal_cons pal_nil))))))
abbrev s__law_rods : Stmt := (top 19)
theorem sc__law_rods : FnScope ["_law_source_here", "_law_most", "_law_many", "_law_way", "_law_one", "_law_found", "_law_at"] ["_law_source_here", "_law_most"] (defScope s__law_rods) := ⟨rfl, rfl, rfl, by decide +kernel, rfl, by decide +kernel, by decide +kernel⟩
theorem ok__law_rods {P : Program} {w : World} {K : PySem.W.Frag} {mg : Str → Option Value} {base : Heap} (c : Cont P K mg) : FnH P w K mg base (gM K) 2 "_law_rods" 2 [0] F__law_rods := by
  obtain ⟨fd, F⟩ := c.s.def_ 11 (d := d__law_rods) rfl
  exact FnH.of F sc__law_rods (by decide) (c.glo 52 rfl) (fun _ _ _ _ _ _ us hl => match us, hl with | [_, _], _ => rfl) fun cdv A outer s H E hr => (sb_cons (by first | exact (sc_par (i := 2) (j := 3) rfl sc__law_rods.nd rfl rfl (by decide) rfl rfl (by decide) (by decide) (sv_cons (snd_fz (snd_bin opS_add (sl_cons snd_int (sl_cons (snd_frz (snd_callH takes_cx (ok__law_draw c) hr (by decide) (sa_io (i := 0) (sa_d (snd_name (i := 1)) sa_nil)) rfl (pal_cons (pal_cons pal_nil)))) sl_nil)))) (sv_cons (snd_callH takes_cx (ok__law_draw c) hr (by decide) (sa_io (i := 0) (sa_d snd_int sa_nil)) rfl (pal_cons (pal_cons pal_nil))) sv_nil)) (pal_cons (pal_cons pal_nil)) (by rfl)) | exact (sc_parT (i := 2) (j := 3) rfl sc__law_rods.nd rfl rfl (by first | exact Or.inl rfl | exact Or.inr rfl) (by first | exact Or.inl rfl | exact Or.inr rfl) (by decide) (by decide) (sv_cons (snd_fz (snd_bin opS_add (sl_cons snd_int (sl_cons (snd_frz (snd_callH takes_cx (ok__law_draw c) hr (by decide) (sa_io (i := 0) (sa_d (snd_name (i := 1)) sa_nil)) rfl (pal_cons (pal_cons pal_nil)))) sl_nil)))) (sv_cons (snd_callH takes_cx (ok__law_draw c) hr (by decide) (sa_io (i := 0) (sa_d snd_int sa_nil)) rfl (pal_cons (pal_cons pal_nil))) sv_nil)) (pal_cons (pal_cons pal_nil))))
 (sb_cons (by first | exact (sc_par (i := 4) (j := 5) rfl sc__law_rods.nd rfl rfl (by decide) rfl rfl (by decide) (by decide) (sv_cons (snd_fz (snd_bin opS_add (sl_cons snd_int (sl_cons (snd_frz (snd_callH takes_cx (ok__law_draw c) hr (by decide) (sa_io (i := 0) (sa_d snd_int sa_nil)) rfl (pal_cons (pal_cons pal_nil)))) sl_nil)))) (sv_cons (snd_lst sf_nil pal_nil) sv_nil)) (pal_cons (pal_cons pal_nil)) (by rfl)) | exact (sc_parT (i := 4) (j := 5) rfl sc__law_rods.nd rfl rfl (by first | exact Or.inl rfl | exact Or.inr rfl) (by first | exact Or.inl rfl | exact Or.inr rfl) (by decide) (by decide) (sv_cons (snd_fz (snd_bin opS_add (sl_cons snd_int (sl_cons (snd_frz (snd_callH takes_cx (ok__law_draw c) hr (by decide) (sa_io (i := 0) (sa_d snd_int sa_nil)) rfl (pal_cons (pal_cons pal_nil)))) sl_nil)))) (sv_cons (snd_lst sf_nil pal_nil) sv_nil)) (pal_cons (pal_cons pal_nil))))
 (sb_cons (sc_for owns_cx rfl (si_range1 rfl (c.free 48 rfl) (sl_name (i := 2) sl_nil) (pal_cons pal_nil)) (sg_name sc__law_rods.nd rfl (by first | exact Or.inl rfl | exact Or.inr rfl) (by decide)) (sb_cons (sc_if (snd_tcmp (opS_eq hr.units) (by rfl) (sl_name (i := 3) (sl_cons snd_int sl_nil))) (sb_one (sc_exD (snd_app (i := 5) (snd_bin opS_add (sl_cons snd_int (sl_cons (snd_frz (snd_callH takes_cx (ok__law_draw c) hr (by decide) (sa_io (i := 0) (sa_d snd_int sa_nil)) rfl (pal_cons (pal_cons pal_nil)))) sl_nil)))))) sb_nil)
 (sb_cons (sc_if (snd_tcmp (opS_eq hr.units) (by rfl) (sl_name (i := 3) (sl_cons snd_int sl_nil))) (sb_one (sc_exD (snd_app (i := 5) (snd_name (i := 4))))) sb_nil)
 (sb_cons (sc_if (snd_tcmp (opS_eq hr.units) (by rfl) (sl_name (i := 3) (sl_cons snd_int sl_nil))) (sb_one (sc_exD (snd_app (i := 5) (snd_callB (callS_max rfl) rfl (c.free 47 rfl) (by rfl) (sl_cons snd_int (sl_cons (snd_bin opS_sub (sl_name (i := 4) (sl_cons (snd_bin opS_mod (sl_name (i := 6) (sl_cons snd_int sl_nil))) sl_nil))) sl_nil)) (pal_cons (pal_cons pal_nil)))))) sb_nil)
 (sb_cons (sc_if (snd_tcmp (opS_eq hr.units) (by rfl) (sl_name (i := 3) (sl_cons snd_int sl_nil))) (sb_one (sc_exD (snd_app (i := 5) (snd_bin opS_add (sl_cons snd_int (sl_cons (snd_frz (snd_callH takes_cx (ok__law_draw c) hr (by decide) (sa_io (i := 0) (sa_d snd_int sa_nil)) rfl (pal_cons (pal_cons pal_nil)))) sl_nil)))))) sb_nil)
 (sb_one (sc_if (snd_tcmp (opS_eq hr.units) (by rfl) (sl_name (i := 3) (sl_cons snd_int sl_nil))) (sb_one (sc_exD (snd_app (i := 5) (snd_bin opS_add (sl_cons snd_int (sl_cons (snd_frz (snd_callH takes_cx (ok__law_draw c) hr (by decide) (sa_io (i := 0) (sa_d snd_int sa_nil)) rfl (pal_cons (pal_cons pal_nil)))) sl_nil)))))) sb_nil)))))))
 (sb_one (sc_retO (i := 5) (by decide))))))
abbrev s__law_too_many : Stmt := (top 25)
theorem sc__law_too_many : FnScope ["_law_one", "_law_x"] ["_law_one"] (defScope s__law_too_many) := ⟨rfl, rfl, rfl, by decide +kernel, rfl, by decide +kernel, by decide +kernel⟩
theorem ok__law_too_many {P : Program} {w : World} {K : PySem.W.Frag} {mg : Str → Option Value} {base : Heap} (c : Cont P K mg) : FnH P w K mg base (gM K) 5 "_law_too_many" 1 [] F__law_too_many := by
  obtain ⟨fd, F⟩ := c.s.def_ 12 (d := d__law_too_many) rfl
  exact FnH.of F sc__law_too_many (by decide) (c.glo 53 rfl) (fun _ _ _ _ _ _ us hl => match us, hl with | [_], _ => rfl) fun cdv A outer s H E hr => (sb_cons (sc_set (i := 1) sc__law_too_many.nd rfl (by first | exact Or.inl rfl | exact Or.inr rfl) (by decide) (snd_name (i := 0)))
 (sb_one (sc_ret (snd_makeX (c := 0) takes_cx (mk_Rule c) (mok_Rule___init___Rule_o c) hr (by decide) rfl (c.glo 35 rfl) (pal_cons (pal_cons (pal_cons (pal_cons (pal_cons (pal_cons (pal_cons (pal_cons (pal_cons (pal_cons (pal_cons (pal_cons (pal_cons pal_nil))))))))))))) (by refine sf_cons ?_ ?_; (· exact (snd_name (i := 1))); (refine sf_cons ?_ ?_; (· exact snd_int); (refine sf_cons ?_ ?_; (· exact (snd_name (i := 1))); (refine sf_cons ?_ ?_; (· exact snd_int); (refine sf_cons ?_ ?_; (· exact (snd_name (i := 1))); (refine sf_cons ?_ ?_; (· exact snd_int); (refine sf_cons ?_ ?_; (· exact (snd_name (i := 1))); (refine sf_cons ?_ ?_; (· exact snd_int); (refine sf_cons ?_ ?_; (· exact (snd_name (i := 1))); (refine sf_cons ?_ ?_; (· exact snd_int); (refine sf_cons ?_ ?_; (· exact (snd_name (i := 1))); (refine sf_cons ?_ ?_; (· exact snd_int); (refine sf_cons ?_ ?_; (· exact snd_int); (exact sf_nil)))))))))))))) sk_nil (by decide) (by decide)))))
abbrev s__law_is_full : Stmt := (top 26)
theorem sc__law_is_full : FnScope ["_law_one", "_law_x", "_law_full"] ["_law_one"] (defScope s__law_is_full) := ⟨rfl, rfl, rfl, by decide +kernel, rfl, by decide +kernel, by decide +kernel⟩
theorem ok__law_is_full {P : Program} {w : World} {K : PySem.W.Frag} {mg : Str → Option Value} {base : Heap} (c : Cont P K mg) (tb : TBs K mg base lamL) : FnHG P w K mg base (gM K) 8 "_law_is_full" 1 [] F__law_is_full := by
  obtain ⟨fd, F⟩ := c.s.def_ 13 (d := d__law_is_full) rfl
  exact FnHG.ofL (x := "_law_is_full") F sc__law_is_full (by decide) (c.glo 54 rfl) (fun _ _ _ _ _ _ us hl => match us, hl with | [_], _ => rfl) fun A outer s H E hr hgd => (sb_cons (sc_set (i := 1) sc__law_is_full.nd rfl (by first | exact Or.inl rfl | exact Or.inr rfl) (by decide) (snd_name (i := 0)))
 (sb_cons (sc_put (i := 2) sc__law_is_full.nd rfl (by first | exact Or.inl rfl | exact Or.inr rfl) (by decide) (snd_makeX (c := 0) takes_cx (mk_Rule c) (mok_Rule___init___Rule_o c) hr (by decide) rfl (c.glo 35 rfl) (pal_cons (pal_cons (pal_cons (pal_cons (pal_cons (pal_cons (pal_cons (pal_cons (pal_cons (pal_cons (pal_cons (pal_cons pal_nil)))))))))))) (by refine sf_cons ?_ ?_; (· exact (snd_name (i := 1))); (refine sf_cons ?_ ?_; (· exact snd_int); (refine sf_cons ?_ ?_; (· exact (snd_name (i := 1))); (refine sf_cons ?_ ?_; (· exact snd_int); (refine sf_cons ?_ ?_; (· exact (snd_name (i := 1))); (refine sf_cons ?_ ?_; (· exact snd_int); (refine sf_cons ?_ ?_; (· exact (snd_name (i := 1))); (refine sf_cons ?_ ?_; (· exact snd_int); (refine sf_cons ?_ ?_; (· exact (snd_name (i := 1))); (refine sf_cons ?_ ?_; (· exact snd_int); (refine sf_cons ?_ ?_; (· exact (snd_name (i := 1))); (refine sf_cons ?_ ?_; (· exact snd_int); (exact sf_nil))))))))))))) sk_nil (by decide) (by decide)))
 (sb_cons (sc_if (snd_not (snd_tru (snd_frz (snd_callHG takes_cx (ok__law_is_equal c) hr (by decide) hgd (sa_d (snd_frz (snd_lst (sf_cons (snd_frz (snd_prop (pmok_total c) hr (by decide) (snd_name (i := 2)))) (sf_cons (snd_frz (snd_prop (pmok_rods c) hr (by decide) (snd_name (i := 2)))) sf_nil)) (pal_cons (pal_cons pal_nil)))) (sa_d (snd_frz (snd_lst (sf_cons (snd_bin opS_add (sl_cons (snd_bin opS_mul (sl_cons snd_int (sl_name (i := 0) sl_nil))) (sl_cons snd_int sl_nil))) (sf_cons (snd_frz (by refine snd_lst ?_ ?_; (· exact (by refine sf_cons ?_ ?_; (· exact (snd_name (i := 1))); (refine sf_cons ?_ ?_; (· exact snd_int); (refine sf_cons ?_ ?_; (· exact (snd_name (i := 1))); (refine sf_cons ?_ ?_; (· exact snd_int); (refine sf_cons ?_ ?_; (· exact (snd_name (i := 1))); (refine sf_cons ?_ ?_; (· exact snd_int); (refine sf_cons ?_ ?_; (· exact (snd_name (i := 1))); (refine sf_cons ?_ ?_; (· exact snd_int); (refine sf_cons ?_ ?_; (· exact (snd_name (i := 1))); (refine sf_cons ?_ ?_; (· exact snd_int); (refine sf_cons ?_ ?_; (· exact (snd_name (i := 1))); (refine sf_cons ?_ ?_; (· exact snd_int); (exact sf_nil)))))))))))))); (· exact (pal_cons (pal_cons (pal_cons (pal_cons (pal_cons (pal_cons (pal_cons (pal_cons (pal_cons (pal_cons (pal_cons (pal_cons pal_nil))))))))))))))) sf_nil)) (pal_cons (pal_cons pal_nil)))) sa_nil)) rfl (pal_cons (pal_cons pal_nil)))))) (sb_one (sc_retD snd_bl)) sb_nil)
 (sb_one (sc_retD (snd_cmp (opS_eq hr.units) (by rfl) (sl_cons (snd_frz (snd_lamX (k := 5) (d := "_law_is_full") (L := lamL) (tk__law_outcome c) tb (by decide) (by decide) (c.s.ch 34 rfl) rfl (by first | rfl | decide) (hr.mono (by decide)) (LamX.lamS_by (by rfl)) (fun A outer s H E f c' hr => (snd_frz (snd_callH takes_lam (ok__law_too_many c) hr (by decide) (sa_d (snd_name (i := 0)) sa_nil) rfl (pal_cons pal_nil)))) (by rfl))) (sl_cons (snd_tup (sf_cons (snd_str (by rfl)) sf_nil) (pal_cons pal_nil)) sl_nil))))))))
abbrev s__law_source : Stmt := (top 15)
theorem sc__law_source : FnScope ["_law_cell_here"] ["_law_cell_here"] (defScope s__law_source) := ⟨rfl, rfl, rfl, by decide +kernel, rfl, by decide +kernel, by decide +kernel⟩
theorem ok__law_source {P : Program} {w : World} {K : PySem.W.Frag} {mg : Str → Option Value} {base : Heap} (c : Cont P K mg) : FnH P w K mg base (gM K) 1 "_law_source" 1 [] F__law_source := by
  obtain ⟨fd, F⟩ := c.s.def_ 14 (d := d__law_source) rfl
  exact FnH.of F sc__law_source (by decide) (c.glo 55 rfl) (fun _ _ _ _ _ _ us hl => match us, hl with | [_], _ => rfl) fun cdv A outer s H E hr => (sb_one (sc_ret (snd_lst (by refine sf_cons ?_ ?_; (· exact (snd_callB (callS_max rfl) rfl (c.free 47 rfl) (by rfl) (sl_cons snd_int (sl_cons (snd_bin opS_sub (sl_name (i := 0) (sl_cons (snd_bin opS_pow (sl_cons snd_int (sl_cons snd_int sl_nil))) sl_nil))) sl_nil)) (pal_cons (pal_cons pal_nil)))); (refine sf_cons ?_ ?_; (· exact (snd_bin opS_add (sl_cons (snd_bin opS_mod (sl_name (i := 0) (sl_cons snd_int sl_nil))) (sl_cons snd_int sl_nil)))); (refine sf_cons ?_ ?_; (· exact snd_int); (exact sf_nil)))) (pal_cons (pal_cons (pal_cons pal_nil))))))
abbrev s__law_cell : Stmt := (top 14)
theorem sc__law_cell : FnScope ["_law_script", "_law_index"] ["_law_script", "_law_index"] (defScope s__law_cell) := ⟨rfl, rfl, rfl, by decide +kernel, rfl, by decide +kernel, by decide +kernel⟩
theorem ok__law_cell {P : Program} {w : World} {K : PySem.W.Frag} {mg : Str → Option Value} {base : Heap} (c : Cont P K mg) : FnH P w K mg base (gM K) 1 "_law_cell" 2 [] F__law_cell := by
  obtain ⟨fd, F⟩ := c.s.def_ 15 (d := d__law_cell) rfl
  exact FnH.of F sc__law_cell (by decide) (c.glo 56 rfl) (fun _ _ _ _ _ _ us hl => match us, hl with | [_, _], _ => rfl) fun cdv A outer s H E hr => (sb_cons (sc_if (snd_tcmp opS_lt (by rfl) (sl_name (i := 1) (sl_cons (snd_callB callS_len rfl (c.free 42 rfl) (by rfl) (sl_name (i := 0) sl_nil) (pal_cons pal_nil)) sl_nil))) (sb_one (sc_retD (snd_ix (un1 hr) (sl_name (i := 0) (sl_name (i := 1) sl_nil)) (fun _ _ => rfl)))) sb_nil)
 (sb_one (sc_retD snd_int)))
theorem exy_FoldError {P : Program} {K : PySem.W.Frag} {mg : Str → Option Value} (c : Cont P K mg) : ∀ n ∈ ([9, 11, 12] : List Nat), PySem.W.exmOne K (.ref (gM K n)) (.ref (He.ga K "FoldError")) = some true := by
    intro n hc
    simp only [List.mem_cons, List.not_mem_nil, or_false] at hc; rcases hc with rfl | rfl | rfl
    · exact of_decide_eq_true (c.s.ch 41 rfl)
    · exact of_decide_eq_true (c.s.ch 42 rfl)
    · exact of_decide_eq_true (c.s.ch 43 rfl)
theorem exn_FoldError {P : Program} {K : PySem.W.Frag} {mg : Str → Option Value} (c : Cont P K mg) : ∀ n ∈ ([] : List Nat), PySem.W.exmOne K (.ref (gM K n)) (.ref (He.ga K "FoldError")) = some false := (fun _ h => by cases h)
abbrev s_law : Stmt := (top 27)
theorem sc_law : FnScope ["_law_script", "_law_limits", "_law_k", "_law_source_here", "_law_lap", "_law_rods_here", "_law_bent", "_law_value"] ["_law_script"] (defScope s_law) := ⟨rfl, rfl, rfl, by decide +kernel, rfl, by decide +kernel, by decide +kernel⟩
theorem end_law {P : Program} {w : World} {K : PySem.W.Frag} {mg : Str → Option Value} (c : Cont P K mg) : ∃ fd : FuncData, (∀ (s : Shared) (v : Value), BindsTo s fd ⟨[v], []⟩ [("_law_script", v)]) ∧ ∀ base : Heap, TBs K mg base lamL → FnG P w K mg base (L2.CX P w) 9 (He.ga K "law") fd ["_law_script"] (spM K (gM K) 1 [] F_law) := by
  obtain ⟨fd, F⟩ := c.s.def_ 16 (d := d_law) rfl
  exact ⟨fd, fun s v => F.bindsA (ps := ["_law_script"]) (fun _ _ _ _ _ _ us hl => match us, hl with | [_], _ => rfl) s [v] rfl, fun base tb => okG_of F sc_law (by decide) fun cdv A outer s H E hr hgd => (sb_one (sc_try rfl rfl takes_cx (fun W2 pn xe tk2 ow2 => (sb_cons (sc_put (i := 1) sc_law.nd rfl (by first | exact Or.inl rfl | exact Or.inr rfl) (by decide) (by refine snd_lst ?_ ?_; (· exact (by refine sf_cons ?_ ?_; (· exact (Exists.elim (cvalB_ok (c.s.ch 31 rfl)) fun _ hcv => snd_cvalI (c.glo 35 rfl) (readB_ok (c.s.ch 27 rfl)) hcv)); (refine sf_cons ?_ ?_; (· exact (Exists.elim (cvalB_ok (c.s.ch 28 rfl)) fun _ hcv => snd_cvalI (c.glo 35 rfl) (readB_ok (c.s.ch 27 rfl)) hcv)); (refine sf_cons ?_ ?_; (· exact (Exists.elim (cvalB_ok (c.s.ch 40 rfl)) fun _ hcv => snd_cvalI (c.glo 13 rfl) (readB_ok (c.s.ch 39 rfl)) hcv)); (refine sf_cons ?_ ?_; (· exact (Exists.elim (cvalB_ok (c.s.ch 38 rfl)) fun _ hcv => snd_cvalI (c.glo 14 rfl) (readB_ok (c.s.ch 37 rfl)) hcv)); (refine sf_cons ?_ ?_; (· exact (Exists.elim (cvalB_ok (c.s.ch 36 rfl)) fun _ hcv => snd_cvalI (c.glo 57 rfl) (readB_ok (c.s.ch 35 rfl)) hcv)); (exact sf_nil))))))); (· exact (pal_cons (pal_cons (pal_cons (pal_cons (pal_cons pal_nil))))))))
 (sb_cons (sc_if (snd_not (snd_tru (snd_frz (snd_callHG tk2 (ok__law_is_equal c) hr (by decide) hgd (sa_d (snd_name (i := 1)) (sa_d (snd_frz (by refine snd_lst ?_ ?_; (· exact (by refine sf_cons ?_ ?_; (· exact snd_int); (refine sf_cons ?_ ?_; (· exact snd_int); (refine sf_cons ?_ ?_; (· exact snd_int); (refine sf_cons ?_ ?_; (· exact snd_int); (refine sf_cons ?_ ?_; (· exact snd_int); (exact sf_nil))))))); (· exact (pal_cons (pal_cons (pal_cons (pal_cons (pal_cons pal_nil)))))))) sa_nil)) rfl (pal_cons (pal_cons pal_nil)))))) (sb_one (sc_retD snd_bl)) sb_nil)
 (sb_cons (sc_for ow2 rfl (si_range1 rfl (c.free 48 rfl) (sl_cons (snd_callB (callS_max rfl) rfl (c.free 47 rfl) (by rfl) (sl_cons snd_int (sl_cons (snd_callB (callS_min rfl hr.units) rfl (c.free 46 rfl) (by rfl) (sl_cons (snd_callB callS_len rfl (c.free 42 rfl) (by rfl) (sl_name (i := 0) sl_nil) (pal_cons pal_nil)) (sl_cons snd_int sl_nil)) (pal_cons (pal_cons pal_nil))) sl_nil)) (pal_cons (pal_cons pal_nil))) sl_nil) (pal_cons pal_nil)) (sg_name sc_law.nd rfl (by first | exact Or.inl rfl | exact Or.inr rfl) (by decide)) (sb_cons (sc_put (i := 3) sc_law.nd rfl (by first | exact Or.inl rfl | exact Or.inr rfl) (by decide) (snd_callH tk2 (ok__law_source c) hr (by decide) (sa_d (snd_frz (snd_callH tk2 (ok__law_cell c) hr (by decide) (sa_d (snd_name (i := 0)) (sa_d (snd_name (i := 2)) sa_nil)) rfl (pal_cons (pal_cons pal_nil)))) sa_nil) rfl (pal_cons pal_nil)))
 (sb_cons (sc_if (snd_not (snd_tru (snd_frz (snd_callHG tk2 (ok__law_is_full c tb) hr (by decide) hgd (sa_d (snd_bin opS_add (sl_cons snd_int (sl_cons (snd_frz (snd_callH tk2 (ok__law_draw c) hr (by decide) (sa_io (i := 3) (sa_d snd_int sa_nil)) rfl (pal_cons (pal_cons pal_nil)))) sl_nil))) sa_nil) rfl (pal_cons pal_nil))))) (sb_one (sc_retD snd_bl)) sb_nil)
 (sb_one (sc_for ow2 rfl (si_range1 rfl (c.free 48 rfl) (sl_cons snd_int sl_nil) (pal_cons pal_nil)) (sg_name sc_law.nd rfl (by first | exact Or.inl rfl | exact Or.inr rfl) (by decide)) (sb_cons (sc_put (i := 5) sc_law.nd rfl (by first | exact Or.inl rfl | exact Or.inr rfl) (by decide) (snd_callH tk2 (ok__law_rods c) hr (by decide) (sa_io (i := 3) (sa_d snd_int sa_nil)) rfl (pal_cons (pal_cons pal_nil))))
 (sb_cons (sc_put (i := 6) sc_law.nd rfl (by first | exact Or.inl rfl | exact Or.inr rfl) (by decide) (snd_callTyV (callV_listS rfl) rfl (c.free 11 rfl) (by rfl) (sl_name (i := 5) sl_nil) (pal_cons pal_nil)))
 (sb_cons (sc_asg (snd_frz (snd_callH tk2 (ok__law_odd c) hr (by decide) (sa_io (i := 3) sa_nil) rfl (pal_cons pal_nil))) (sg_sub (i := 6) (un1 hr) (snd_frz (snd_callH tk2 (ok__law_draw c) hr (by decide) (sa_io (i := 3) (sa_d (snd_callB callS_len rfl (c.free 42 rfl) (by rfl) (sl_name (i := 5) sl_nil) (pal_cons pal_nil)) sa_nil)) rfl (pal_cons (pal_cons pal_nil))))))
 (sb_cons (sc_if (snd_wt (snd_or (snd_not (snd_tru (snd_frz (snd_callHG tk2 (ok__law_is_right c tb) hr (by decide) hgd (sa_d (snd_name (i := 5)) sa_nil) rfl (pal_cons pal_nil))))) (snd_or (snd_not (snd_tru (snd_frz (snd_callHG tk2 (ok__law_is_right c tb) hr (by decide) hgd (sa_d (snd_name (i := 6)) sa_nil) rfl (pal_cons pal_nil))))) (snd_or1 (snd_not (snd_tru (snd_frz (snd_callHG tk2 (ok__law_is_right c tb) hr (by decide) hgd (sa_d (snd_frz (snd_lst (sf_cons (snd_frz (snd_callH tk2 (ok__law_odd c) hr (by decide) (sa_io (i := 3) sa_nil) rfl (pal_cons pal_nil))) sf_nil) (pal_cons pal_nil))) sa_nil) rfl (pal_cons pal_nil))))))))) (sb_one (sc_retD snd_bl)) sb_nil)
 (sb_cons (sc_put (i := 7) sc_law.nd rfl (by first | exact Or.inl rfl | exact Or.inr rfl) (by decide) (snd_callH tk2 (ok__law_odd c) hr (by decide) (sa_io (i := 3) sa_nil) rfl (pal_cons pal_nil)))
 (sb_one (sc_if (snd_not (snd_tru (snd_frz (snd_callHG tk2 (ok__law_is_equal c) hr (by decide) hgd (sa_d (snd_frz (snd_lst (sf_cons (snd_frz (Exists.elim (statB_ok (c.s.ch 29 rfl)) fun _ hst => snd_static tk2 (c.glo 35 rfl) (readB_ok (c.s.ch 27 rfl)) hst (ok_Rule_is_rod c) hr (by decide) (sa_d (snd_name (i := 7)) sa_nil) rfl (pal_cons pal_nil))) (sf_cons (snd_frz (Exists.elim (statB_ok (c.s.ch 29 rfl)) fun _ hst => snd_static tk2 (c.glo 35 rfl) (readB_ok (c.s.ch 27 rfl)) hst (ok_Rule_is_rod c) hr (by decide) (sa_d (snd_ix (un1 hr) (sl_name (i := 5) (sl_cons snd_int sl_nil)) (fun _ _ => rfl)) sa_nil) rfl (pal_cons pal_nil))) sf_nil)) (pal_cons (pal_cons pal_nil)))) (sa_d (snd_frz (snd_lst (sf_cons (snd_frz (snd_callH tk2 (ok__law_is_length c) hr (by decide) (sa_d (snd_name (i := 7)) sa_nil) rfl (pal_cons pal_nil))) (sf_cons snd_bl sf_nil)) (pal_cons (pal_cons pal_nil)))) sa_nil)) rfl (pal_cons (pal_cons pal_nil)))))) (sb_one (sc_retD snd_bl)) sb_nil))))))))))))
 (sb_one (sc_ret (snd_callHG tk2 (ok__law_is_right c tb) hr (by decide) hgd (sa_d (snd_frz (snd_lst sf_nil pal_nil)) sa_nil) rfl (pal_cons pal_nil)))))))) (HdR.cons ⟨rfl, by decide, Or.inl (c.glo 58 rfl)⟩ (exy_FoldError c) (exn_FoldError c) (fun a oe pn e => (sb_one (sc_retD snd_bl))) HdR.nil)))⟩
theorem law_at {P : Program} {K : PySem.W.Frag} {mg : Str → Option Value} (c : Cont P K mg) : mg "law" = some (.ref (He.ga K "law")) := c.glo 59 rfl
end Rz
open PySem PySem.W PySem.Calls PyProof.Rows
theorem PySem.Challenge.cw_rodturns_k01_rules_are_made_of_rods_holds : PySem.Challenge.rw_rodturns_k01_rules_are_made_of_rods.Holds := by
  w_on; o_law
  refine HandSHeadRun.head_any (r := Rz.R0) (q := view Rz.R0.prog [24, 26, 27]) (H := Rz.hk) (ob := Rz.ob) (M := 14000) (loose := Rz.loose) (d := HandSHeadRun.topDef Rz.R0.prog 27) (kwd := []) Rz.ob_eq
    (by kernel_rfl) (fun s => by kernel_rfl) Rz.run (by kernel_rfl) (by kernel_rfl) (by kernel_rfl) (by rfl) (by first | assumption | decide +kernel) (by decide +kernel) ⟨rfl, rfl, rfl, rfl, rfl, by decide +kernel⟩ ?hw ?hc
  case hw => w_witness2
  case hc =>
    refine Rz.walk_ofGT (q := PySem.W.view Rz.R0.prog [24, 26, 27]) (l := PySem.Challenge.rw_rodturns_k01_rules_are_made_of_rods) (n := 63) (k := 9) (x := "_law_script") (CX := fun w => L2.CX PySem.Challenge.pw_rodturns_k01_rules_are_made_of_rods w) rfl (by decide) (by kernel_rfl) ⟨rfl, by decide, by decide⟩ ?F (fun w H s e s' z => Rz.cx_out _ w H s e s' z)
    intro w mg fa h Y G hmg0 T
    obtain ⟨K, KX, c⟩ := Y
    have hmg : mg ("law" : PySem.Str) = some (.ref fa) := by
      have e : (HandSHeadRun.topDef Rz.R0.prog 27).name = ("law" : PySem.Str) := by kernel_rfl
      rw [← e]
      exact hmg0
    have C := Rz.cont_of KX G c
    have e := hmg.symm.trans (Rz.law_at C)
    obtain rfl : fa = He.ga K "law" := by simpa using e
    obtain ⟨fd, hb, hF⟩ := Rz.end_law (w := w) C
    exact ⟨K, fd, _, Rz.pairs K Rz.lamL, KX, Rz.tabsAt_of KX T (by decide +kernel) (fun x hx => by
      unfold Rz.lamL at hx
      simp only [List.mem_cons, List.not_mem_nil, or_false] at hx
      rcases hx with rfl | rfl | rfl
      · exact C.glo 45 rfl
      · exact C.glo 54 rfl
      · exact C.glo 59 rfl
      ) (C.s.ch 65 rfl), hb, fun H a ns hl h1 h2 hS => Rz.law_spL (by decide) (C.s.ch 63 rfl) (C.s.ch 64 rfl) h1 h2 hS (Rz.law_true ns hl), fun base _ _ hT => hF base (Rz.TBs.of hT)⟩
