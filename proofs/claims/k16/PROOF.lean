import PyProof.Rows.All
import Wide.All
import OpenK.AllK
import Wide.FinOn
import HandS.HeadHook3
import HandS.HeadHook4
import HandS.ExcInit
import HandS.ExcField
import HandS.ExcIs
import KE.KIsAll
import HandS.EndBits
import HandS.Defaults
import HandS.Head0
import HandS.Head1
import HandS.Head2
import HandS.HeadEnd
import HandS.HeadHook1
import HandS.HeadHook2
import HandS.Words
import HandS.WordsExc
import HandS.Base
import HandS.Call
import HandS.List
import HandS.Comp
import HandS.Iter
import HandS.Text
import HandS.Dict
import HandS.Exc
import HandS.ExcOwn
import HandS.TryOnly
import KE.KDictKeyed
import HandS.Deep
import HandS.Wide
import HandS.TupAny
import HandS.TupMul
import HandS.IsInst
import HandS.Style
import HandS.Zip
import KE.GoesMore
import PyProof.EnumMake
import PyProof.CollectStr
import HandS.Conv
import PyProof.StrLawsIn
import PyProof.StrLaws
import PyProof.Rows.StrFit
import HandS.Codes
import HandS.SetFor
import HandS.Strs
import KE.KEqNest
import HandS.ExcValue
import KE.KDictDisplayH
import HandS.Small
import HandS.WordsDict
import HandS.More
import HandS.SortInts
import KE.SortData
import PyProof.TupleOfSeq
import PySem.Challenge.RW_hedgewalk_k16_worlds_made
set_option Elab.async false
set_option linter.all false
set_option maxRecDepth 100000
set_option maxHeartbeats 4000000
/-! ML00: what a law's head is asked, by Bools. -/
namespace ML
open PySem PySem.Spec PyProof.Rows L2
/-- the class object of an own exception class -/
def oexB (K : PySem.W.Frag) (C : Addr) : Bool := match K.lookup C with
  | some ⟨.type t, _, .cls cd, sl⟩ => (match cd.mro, sl.toList with
    | .ref C' :: bm, [_, _, _, _, some (.builtin n), _] => decide (t = "type") && (decide (C' = C) && (decide (n = "ValueError.__new__") && (PySem.HandSPX.refsVE bm && (cd.hasDict && !cd.hasDel))))
    | _, _ => false)
  | _ => false
def oexcB (K : PySem.W.Frag) (C : Addr) : Bool := oexB K C && (He.eqO (PySem.W.findIn K (.ref C) "__setattr__") (some (some (.builtin "object.__setattr__"))) && (decide (PySem.W.subIn K (.ref C) (.type "BaseException") = some true) &&
  (decide (PySem.W.typeIn K (.ref C) = some (.type "type")) && PySem.W.keepIn K (.ref C))))
/-- the base's __init__, read off the class b -/
def xbB (K : PySem.W.Frag) (C : Addr) : Bool := decide (PySem.W.specialIn K (.ref C) "__getattribute__" = some (some (.builtin "type.__getattribute__"))) && (decide (PySem.W.typeIn K (.ref C) = some (.type "type")) && (PySem.W.readsIn K C (.type "type") &&
  (match PySem.W.findCls K (.ref C) (.type "type") "__init__" with
    | some (.val (.builtin n)) => decide (n = "ValueError.__init__")
    | _ => false)))
/-- a class whose instances may be asked: fields, isinstance -/
def xvB (K : PySem.W.Frag) (C : Addr) : Bool := decide (PySem.W.findIn K (.ref C) "__getattribute__" = some (some (.builtin "BaseException.__getattribute__"))) && (decide (PySem.W.findIn K (.ref C) "__getattr__" = some none) &&
  (decide (PySem.W.subIn K (.ref C) (.type "BaseException") = some true) && (PySem.W.hasDictIn K C && (decide (PySem.W.findIn K (.ref C) "__class__" = some (some (.builtin "object.__class__"))) &&
  (decide (PySem.W.specialIn K (.builtin "object.__class__") "__get__" = some (some (.builtin "getset_descriptor.__get__"))) && (decide (PySem.W.takesIn K (.builtin "object.__class__") = some true) && decide (PySem.W.mroIn K C (.type "object") = some true)))))))
def exAll (xs : List (PySem.W.Frag → Bool)) (K : PySem.W.Frag) : Bool := xs.all fun f => f K
def gloB (x : Str) (K : PySem.W.Frag) : Bool := He.eqO (PySem.W.nsIn K mainGlobals x) (some (some (.ref (He.ga K x))))
def xcB (x : Str) (K : PySem.W.Frag) : Bool := gloB x K && (He.Fa.exc x).ok K
def xiB (x f : Str) (K : PySem.W.Frag) : Bool := gloB x K && (oexcB K (He.ga K x) && (He.eqO (PySem.W.findIn K (.ref (He.ga K x)) "__init__") (some (some (.ref (He.ma K (He.ga K x) "__init__")))) &&
  (decide (PySem.W.typeIn K (.ref (He.ma K (He.ga K x) "__init__")) = some (.type "function")) && He.eqO (PySem.W.findIn K (.ref (He.ga K x)) f) (some none))))
def xbTB (b : Str) (K : PySem.W.Frag) : Bool := gloB b K && xbB K (He.ga K b)
def tlB (x : Str) (yes no : List Str) (K : PySem.W.Frag) : Bool := gloB x K && (yes.all (fun c => gloB c K && decide (PySem.W.exmOne K (.ref (He.ga K c)) (.ref (He.ga K x)) = some true)) &&
  no.all fun c => gloB c K && decide (PySem.W.exmOne K (.ref (He.ga K c)) (.ref (He.ga K x)) = some false))
/-- a class by its name: an own one, a built-in one -/
inductive Dc where
  | own (c : Str) | ty (n : String)
  deriving DecidableEq
def Dc.v (K : PySem.W.Frag) : Dc → Value
  | .own c => .ref (He.ga K c)
  | .ty n => .type n
def Dc.gl (K : PySem.W.Frag) : Dc → Bool
  | .own c => gloB c K
  | .ty _ => true
def isB (ds : List Dc) (yes no : List Str) (K : PySem.W.Frag) : Bool := ds.all (Dc.gl K) && (decide (PySem.W.kitAny K (.type "NoneType") (ds.map (Dc.v K)) = some false) &&
  (yes.all (fun c => gloB c K && (xvB K (He.ga K c) && decide (PySem.W.kitAny K (.ref (He.ga K c)) (ds.map (Dc.v K)) = some true))) &&
  no.all fun c => gloB c K && (xvB K (He.ga K c) && decide (PySem.W.kitAny K (.ref (He.ga K c)) (ds.map (Dc.v K)) = some false))))
def fxB (f : Str) (cs : List Str) (K : PySem.W.Frag) : Bool := cs.all fun c => gloB c K && (xvB K (He.ga K c) && He.eqO (PySem.W.findIn K (.ref (He.ga K c)) f) (some none))
/-- the j-th statement of a class's body -/
def clsBody (s : Stmt) (j : Nat) : Stmt := match s with
  | .ClassDef _ _ _ b _ _ _ _ _ _ _ => b.getD j (.Pass ⟨0, 0, 0, 0⟩)
  | _ => .Pass ⟨0, 0, 0, 0⟩
def asM (g : Addr → Option Obj) (n : Nat) : List Addr := PySem.cStatics :: He.asD g n
structure SaysM (fa : List He.Fa) (fn : List He.DefD) (ex : PySem.W.Frag → Bool) (K : PySem.W.Frag) : Prop where
  d : He.SaysD fa fn K
  more : ex K = true
def tcB (x : Str) (zs : List Str) (K : PySem.W.Frag) : Bool := gloB x K && He.tupB K x (zs.map He.Dv.str)
structure SaysN (fa : List He.Fa) (fn : List He.DefD) (ex : PySem.W.Frag → Bool) (ts : List He.Tab) (w : World) (K : PySem.W.Frag) : Prop extends SaysM fa fn ex K where
  tabs : (ts.map fun t => He.dicW K (t.1 K)) = ts.map fun t => some (He.keysIn w.params t.2)
abbrev AlN : Type := (He.AlD × Bool) × List (Option (List (Option (Str × Int))))
def kvOf (e : DictEntry) : Option (Str × Value) := match e.key with
  | .str x _ => some (x, e.val)
  | _ => none
def kvsOf : List DictEntry → Option (List (Str × Value))
  | [] => some []
  | e :: r => match kvOf e, kvsOf r with
    | some p, some ps => some (p :: ps)
    | _, _ => none
def kdVals (K : PySem.W.Frag) (a : Addr) : Option (List (Str × Value)) := match K.lookup a with
  | some ⟨_, _, .dict es _, _⟩ => kvsOf es.toList
  | _ => none
def lookS {α : Type} (l : List (Str × α)) (z : Str) : Option α := (l.find? fun p => decide (p.1 = z)).map (·.2)
abbrev Tbl := List (Str × List Str)
/-- a tuple of defs -/
def tvB (K : PySem.W.Frag) (v : Value) (fs : List Str) : Bool := match v with
  | .ref p => (match K.lookup p with
    | some ⟨.type c, _, .seq its _, _⟩ => decide (c = "tuple") && (decide (its.size ≤ sizeLine) && He.relAll (fs.map fun f => V.ref (He.ga K f)) its.toList)
    | _ => false)
  | _ => false
/-- what stands in the module's dict x -/
def rowsB (K : PySem.W.Frag) : List (Str × Value) → Tbl → Bool
  | [], [] => true
  | p :: ps, t :: ts => decide (p.1 = t.1) && (tvB K p.2 t.2 && rowsB K ps ts)
  | _, _ => false
def tbB (x : Str) (tbl : Tbl) (K : PySem.W.Frag) : Bool := gloB x K && ((match kdVals K (He.ga K x) with
  | some kvs => rowsB K kvs tbl
  | none => false) && tbl.all fun t => t.2.all fun f => gloB f K)
def fiB (f : Str) (cs : List Str) (K : PySem.W.Frag) : Bool := cs.all fun c => gloB c K && ((He.Fa.cls c).ok K && (He.Fa.noat c f).ok K)
def mtB (c m : Str) (K : PySem.W.Frag) : Bool := gloB c K && ((He.Fa.cls c).ok K && (He.Fa.meth c m).ok K)
def mkB (c : Str) (K : PySem.W.Frag) : Bool := gloB c K && (He.Fa.mkr c).ok K
def obsA (as : List Addr) (fa : List He.Fa) (fn : List He.DefD) (ex : PySem.W.Frag → Bool) (ts : List He.Tab) (g : Addr → Option Obj) : AlN := ((He.obsD fa fn (He.frT g as), ex (He.frT g as)), ts.map fun t => He.dicW (He.frT g as) (t.1 (He.frT g as)))
def hookA (as : List Addr) (fa : List He.Fa) (fn : List He.DefD) (ex : PySem.W.Frag → Bool) (ts : List He.Tab) : PySem.W.Hook where
  α := AlN
  obs := fun t => obsA as fa fn ex ts t.heap.get?
  val := fun w => ((He.valD fn, true), ts.map fun t => some (He.keysIn w.params t.2))
  says := fun w h => ∃ K : PySem.W.Frag, K.In h ∧ SaysN fa fn ex ts w K
  of := fun w t q => by
    have q1 : (He.obsD fa fn (He.frT t.heap.get? as), ex (He.frT t.heap.get? as)) = (He.valD fn, true) := congrArg Prod.fst q
    have q2 : (ts.map fun z => He.dicW (He.frT t.heap.get? as) (z.1 (He.frT t.heap.get? as))) = ts.map fun z => some (He.keysIn w.params z.2) := congrArg Prod.snd q
    exact ⟨_, He.frT_in, ⟨⟨congrArg Prod.fst q1, congrArg Prod.snd q1⟩, q2⟩⟩
  keeps := fun _ _ _ ⟨K, i, c⟩ k => ⟨K, PySem.W.Frag.In.keeps i k, c⟩
theorem obsA_eq {as : List Addr} {fa : List He.Fa} {fn : List He.DefD} {ex : PySem.W.Frag → Bool} {ts : List He.Tab} {g : Addr → Option Obj} {t : Shared} (h : ∀ a, g a = t.heap.get? a) : obsA as fa fn ex ts g = (hookA as fa fn ex ts).obs t := by
  rw [show g = t.heap.get? from funext h]; rfl
end ML

set_option maxRecDepth 100000
set_option maxHeartbeats 4000000
namespace K16
open PySem PySem.Spec PyProof.Rows L2 ML
def topS (i : Nat) : Stmt := PySem.Challenge.pw_hedgewalk_k16_worlds_made.main.body.getD i (.Pass ⟨0, 0, 0, 0⟩)
abbrev s__law_good : Stmt := topS 82
abbrev s__law_alike : Stmt := topS 79
abbrev s_World_hedge_known : Stmt := clsBody (topS 74) 3
abbrev s_World_is_cut : Stmt := clsBody (topS 74) 17
abbrev s_World_rule_of : Stmt := clsBody (topS 74) 15
abbrev s_World_book_of : Stmt := clsBody (topS 74) 2
abbrev s_World_handles : Stmt := clsBody (topS 74) 7
abbrev s_World_many_handles : Stmt := clsBody (topS 74) 6
abbrev s_World___len__ : Stmt := clsBody (topS 74) 24
abbrev s_World_next_thing : Stmt := clsBody (topS 74) 22
abbrev s_World_things : Stmt := clsBody (topS 74) 21
abbrev s_World_net_of : Stmt := clsBody (topS 74) 1
abbrev s__law_fresh : Stmt := topS 84
abbrev s_Book___init__ : Stmt := clsBody (topS 40) 0
abbrev s_is_whole : Stmt := topS 23
abbrev s_is_hedge : Stmt := topS 24
abbrev s_is_net : Stmt := topS 25
abbrev s_World___init__ : Stmt := clsBody (topS 74) 0
abbrev s__law_made : Stmt := topS 83
abbrev s__law_draw : Stmt := topS 78
abbrev s__law_spoilt : Stmt := topS 81
abbrev s__law_net : Stmt := topS 80
abbrev s__law_bag : Stmt := topS 77
abbrev s_law : Stmt := topS 85
def d__law_good : He.DefD := ⟨("_law_good", none), "_law_good", "_law_good", defArgs s__law_good, defBody s__law_good, defScope s__law_good, [], []⟩
def d__law_alike : He.DefD := ⟨("_law_alike", none), "_law_alike", "_law_alike", defArgs s__law_alike, defBody s__law_alike, defScope s__law_alike, [], []⟩
def d_World_hedge_known : He.DefD := ⟨("World", some "hedge_known"), "hedge_known", "World.hedge_known", defArgs s_World_hedge_known, defBody s_World_hedge_known, defScope s_World_hedge_known, [], []⟩
def d_World_is_cut : He.DefD := ⟨("World", some "is_cut"), "is_cut", "World.is_cut", defArgs s_World_is_cut, defBody s_World_is_cut, defScope s_World_is_cut, [], []⟩
def d_World_rule_of : He.DefD := ⟨("World", some "rule_of"), "rule_of", "World.rule_of", defArgs s_World_rule_of, defBody s_World_rule_of, defScope s_World_rule_of, [], []⟩
def d_World_book_of : He.DefD := ⟨("World", some "book_of"), "book_of", "World.book_of", defArgs s_World_book_of, defBody s_World_book_of, defScope s_World_book_of, [], []⟩
def d_World_handles : He.DefD := ⟨("World", some "handles"), "handles", "World.handles", defArgs s_World_handles, defBody s_World_handles, defScope s_World_handles, [], []⟩
def d_World_many_handles : He.DefD := ⟨("World", some "many_handles"), "many_handles", "World.many_handles", defArgs s_World_many_handles, defBody s_World_many_handles, defScope s_World_many_handles, [], []⟩
def d_World___len__ : He.DefD := ⟨("World", some "__len__"), "__len__", "World.__len__", defArgs s_World___len__, defBody s_World___len__, defScope s_World___len__, [], []⟩
def d_World_next_thing : He.DefD := ⟨("World", some "next_thing"), "next_thing", "World.next_thing", defArgs s_World_next_thing, defBody s_World_next_thing, defScope s_World_next_thing, [], []⟩
def d_World_things : He.DefD := ⟨("World", some "things"), "things", "World.things", defArgs s_World_things, defBody s_World_things, defScope s_World_things, [], []⟩
def d_World_net_of : He.DefD := ⟨("World", some "net_of"), "net_of", "World.net_of", defArgs s_World_net_of, defBody s_World_net_of, defScope s_World_net_of, [], []⟩
def d__law_fresh : He.DefD := ⟨("_law_fresh", none), "_law_fresh", "_law_fresh", defArgs s__law_fresh, defBody s__law_fresh, defScope s__law_fresh, [], []⟩
def d_Book___init__ : He.DefD := ⟨("Book", some "__init__"), "__init__", "Book.__init__", defArgs s_Book___init__, defBody s_Book___init__, defScope s_Book___init__, [], []⟩
def d_is_whole : He.DefD := ⟨("is_whole", none), "is_whole", "is_whole", defArgs s_is_whole, defBody s_is_whole, defScope s_is_whole, [], []⟩
def d_is_hedge : He.DefD := ⟨("is_hedge", none), "is_hedge", "is_hedge", defArgs s_is_hedge, defBody s_is_hedge, defScope s_is_hedge, [], []⟩
def d_is_net : He.DefD := ⟨("is_net", none), "is_net", "is_net", defArgs s_is_net, defBody s_is_net, defScope s_is_net, [], []⟩
def d_World___init__ : He.DefD := ⟨("World", some "__init__"), "__init__", "World.__init__", defArgs s_World___init__, defBody s_World___init__, defScope s_World___init__, [], []⟩
def d__law_made : He.DefD := ⟨("_law_made", none), "_law_made", "_law_made", defArgs s__law_made, defBody s__law_made, defScope s__law_made, [], []⟩
def d__law_draw : He.DefD := ⟨("_law_draw", none), "_law_draw", "_law_draw", defArgs s__law_draw, defBody s__law_draw, defScope s__law_draw, [], []⟩
def d__law_spoilt : He.DefD := ⟨("_law_spoilt", none), "_law_spoilt", "_law_spoilt", defArgs s__law_spoilt, defBody s__law_spoilt, defScope s__law_spoilt, [], []⟩
def d__law_net : He.DefD := ⟨("_law_net", none), "_law_net", "_law_net", defArgs s__law_net, defBody s__law_net, defScope s__law_net, [], []⟩
def d__law_bag : He.DefD := ⟨("_law_bag", none), "_law_bag", "_law_bag", defArgs s__law_bag, defBody s__law_bag, defScope s__law_bag, [], []⟩
def d_law : He.DefD := ⟨("law", none), "law", "law", defArgs s_law, defBody s_law, defScope s_law, [], []⟩
def fn : List He.DefD := [d__law_good, d__law_alike, d_World_hedge_known, d_World_is_cut, d_World_rule_of, d_World_book_of, d_World_handles, d_World_many_handles, d_World___len__, d_World_next_thing, d_World_things, d_World_net_of, d__law_fresh, d_Book___init__, d_is_whole, d_is_hedge, d_is_net, d_World___init__, d__law_made, d__law_draw, d__law_spoilt, d__law_net, d__law_bag, d_law]
def exs : List (PySem.W.Frag → Bool) := [fiB "cuts_kept" ["World"], xcB "NoHedge", fiB "rules_kept" ["World"], fiB "by_number" ["Book"], fiB "books" ["World"], xcB "NoGarden", fiB "things_kept" ["World"], fiB "next_kept" ["World"], fiB "net_kept" ["World"], isB [.ty "ValueError"] ["Cut", "Deep", "HedgeError", "Long", "NoDeed", "NoField", "NoGarden", "NoHandle", "NoHedge", "NoName", "NoNet", "NoRule", "NoSum", "NoText", "NoValue", "NoWalk", "Shut", "Unknown"] [], isB [.own "NoNet"] ["NoNet"] ["Cut", "Deep", "HedgeError", "Long", "NoDeed", "NoField", "NoGarden", "NoHandle", "NoHedge", "NoName", "NoRule", "NoSum", "NoText", "NoValue", "NoWalk", "Shut", "Unknown"], isB [.own "Cut", .own "NoField", .own "NoGarden", .own "NoHandle", .own "NoHedge", .own "NoName", .own "NoRule", .own "NoText", .own "NoValue", .own "NoWalk", .own "Shut"] ["Cut", "NoField", "NoGarden", "NoHandle", "NoHedge", "NoName", "NoRule", "NoText", "NoValue", "NoWalk", "Shut"] ["Deep", "HedgeError", "Long", "NoDeed", "NoNet", "NoSum", "Unknown"], tlB "HedgeError" ["NoNet"] [], tcB "WORDS" ["look", "put", "call"], xcB "NoNet", fiB "next_number" ["Book"], fiB "by_seen" ["Book"], mtB "World" "hedge_known", mtB "World" "is_cut", mtB "World" "rule_of", mtB "World" "book_of", mtB "World" "handles", mtB "World" "many_handles", mtB "World" "__len__", mtB "World" "next_thing", mtB "World" "things", mtB "World" "net_of", mkB "Book", mkB "World"]
def fa : List He.Fa := [.glo "_law_good", .glo "_law_alike", .glo "_law_fresh", .glo "is_whole", .glo "is_hedge", .glo "is_net", .glo "_law_made", .glo "_law_draw", .glo "_law_spoilt", .glo "_law_net", .glo "_law_bag", .glo "law", .free "ValueError", .free "all", .free "bool", .free "enumerate", .free "int", .free "isinstance", .free "len", .free "list", .free "max", .free "range", .free "sorted", .free "str", .free "tuple", .free "zip", .int "HEDGES" 20, .int "GARDENS" 12]
abbrev R : PySem.W.OpenRow := PySem.W.OpenLaw.row PySem.Challenge.rw_hedgewalk_k16_worlds_made
def tabs : List He.Tab := []
def places : List Addr := [2, 3, 6, 4, 21, 31, 44, 56, 68, 80, 92, 104, 116, 128, 140, 152, 164, 176, 188, 207, 226, 245, 264, 273, 280, 285, 292, 299, 306, 311, 318, 323, 324, 341, 383, 394, 401, 408, 415, 422, 429, 436, 441, 448, 455, 462, 463, 480, 508, 519, 526, 533, 540, 547, 554, 561, 566, 573, 574, 581, 588, 595, 602, 790, 801, 808, 815, 820, 827, 834, 841, 848, 855, 862, 0, 20, 30, 43, 55, 67, 79, 91, 103, 115, 127, 139, 151, 163, 175, 187, 206, 225, 244, 263, 272, 279, 284, 291, 298, 305, 310, 317, 322, 340, 382, 393, 400, 407, 414, 421, 428, 435, 440, 447, 454, 461, 479, 507, 518, 525, 532, 539, 546, 553, 560, 565, 572, 580, 587, 594, 601, 789, 800, 807, 814, 819, 826, 833, 840, 847, 854, 861, 15, 16, 17, 18, 19, 29, 32, 42, 54, 66, 78, 90, 102, 114, 126, 138, 150, 162, 174, 186, 204, 205, 223, 224, 242, 243, 261, 262, 267, 268, 269, 270, 271, 274, 275, 276, 277, 278, 281, 282, 283, 286, 287, 288, 289, 290, 293, 294, 295, 296, 297, 300, 301, 302, 303, 304, 307, 308, 309, 312, 313, 314, 315, 316, 319, 320, 321, 338, 339, 342, 343, 359, 366, 373, 380, 381, 384, 385, 388, 389, 390, 391, 392, 395, 396, 397, 398, 399, 402, 403, 404, 405, 406, 409, 410, 411, 412, 413, 416, 417, 418, 419, 420, 423, 424, 425, 426, 427, 430, 431, 432, 433, 434, 437, 438, 439, 442, 443, 444, 445, 446, 449, 450, 451, 452, 453, 456, 457, 458, 459, 460, 477, 478, 481, 482, 498, 505, 506, 509, 510, 513, 514, 515, 516, 517, 520, 521, 522, 523, 524, 527, 528, 529, 530, 531, 534, 535, 536, 537, 538, 541, 542, 543, 544, 545, 548, 549, 550, 551, 552, 555, 556, 557, 558, 559, 562, 563, 564, 567, 568, 569, 570, 571, 575, 576, 577, 578, 579, 582, 583, 584, 585, 586, 589, 590, 591, 592, 593, 596, 597, 598, 599, 600, 614, 621, 628, 635, 641, 648, 655, 662, 669, 676, 683, 690, 697, 704, 711, 718, 725, 732, 739, 745, 752, 759, 766, 773, 780, 787, 788, 791, 792, 795, 796, 797, 798, 799, 802, 803, 804, 805, 806, 809, 810, 811, 812, 813, 816, 817, 818, 821, 822, 823, 824, 825, 828, 829, 830, 831, 832, 835, 836, 837, 838, 839, 842, 843, 844, 845, 846, 849, 850, 851, 852, 853, 856, 857, 858, 859, 860, 203, 222, 241, 260, 337, 358, 365, 372, 379, 476, 497, 504, 613, 620, 627, 634, 640, 636, 647, 654, 661, 668, 675, 682, 689, 696, 703, 710, 717, 724, 731, 738, 744, 740, 751, 758, 765, 772, 779, 786, 198, 199, 200, 201, 202, 217, 218, 219, 220, 221, 236, 237, 238, 239, 240, 255, 256, 257, 258, 259, 332, 333, 334, 335, 336, 353, 354, 355, 356, 357, 360, 361, 362, 363, 364, 367, 368, 369, 370, 371, 374, 375, 376, 377, 378, 471, 472, 473, 474, 475, 492, 493, 494, 495, 496, 499, 500, 501, 502, 503, 610, 611, 612, 615, 616, 617, 618, 619, 622, 623, 624, 625, 626, 629, 630, 631, 632, 633, 637, 638, 639, 642, 643, 644, 645, 646, 649, 650, 651, 652, 653, 656, 657, 658, 659, 660, 663, 664, 665, 666, 667, 670, 671, 672, 673, 674, 677, 678, 679, 680, 681, 684, 685, 686, 687, 688, 691, 692, 693, 694, 695, 698, 699, 700, 701, 702, 705, 706, 707, 708, 709, 712, 713, 714, 715, 716, 719, 720, 721, 722, 723, 726, 727, 728, 729, 730, 733, 734, 735, 736, 737, 741, 742, 743, 746, 747, 748, 749, 750, 753, 754, 755, 756, 757, 760, 761, 762, 763, 764, 767, 768, 769, 770, 771, 774, 775, 776, 777, 778, 781, 782, 783, 784, 785]
abbrev hk : PySem.W.Hook := hookA places fa fn (exAll exs) tabs
def ob (s : PySem.W.SharedT) : AlN := obsA places fa fn (exAll exs) tabs (HandSHeadRun.getT s)
theorem ob_eq (s : PySem.W.SharedT) : ob s = hk.obs s.abs := obsA_eq (HandSHeadRun.getT_eq s)
def loose : List Str := [("_wall" : Str), ("is_whole" : Str), ("is_hedge" : Str), ("is_net" : Str), ("shortened" : Str), ("joined" : Str), ("turned" : Str), ("is_name" : Str), ("is_bounded" : Str), ("is_plain" : Str), ("told_value" : Str), ("is_handle" : Str), ("value_of" : Str), ("led" : Str), ("passes" : Str), ("looked" : Str), ("put_in" : Str), ("names_seen" : Str), ("made" : Str), ("other_side" : Str), ("handed" : Str), ("is_number" : Str), ("handle_of" : Str), ("do_set" : Str), ("do_look" : Str), ("do_put" : Str), ("do_make" : Str), ("do_sum" : Str), ("do_call" : Str), ("do_hand" : Str), ("done" : Str), ("result_of" : Str), ("one_call" : Str), ("called" : Str), ("_law_cell_at" : Str), ("_law_bag" : Str), ("_law_draw" : Str), ("_law_alike" : Str), ("_law_net" : Str), ("_law_spoilt" : Str), ("_law_good" : Str), ("_law_made" : Str), ("_law_fresh" : Str), ("GARDENS" : Str), ("HEDGES" : Str), ("LETTERS" : Str), ("SIGNS" : Str), ("TEXT" : Str), ("FIGURES" : Str), ("WORDS" : Str), ("MOST_STEPS" : Str), ("MOST_CALLS" : Str), ("GIVEN" : Str), ("DOINGS" : Str), ("MOST_GIVEN" : Str), ("HedgeError" : Str), ("NoNet" : Str), ("NoGarden" : Str), ("NoHandle" : Str), ("NoName" : Str), ("NoValue" : Str), ("NoField" : Str), ("NoHedge" : Str), ("NoRule" : Str), ("NoDeed" : Str), ("NoSum" : Str), ("Deep" : Str), ("Long" : Str), ("NoText" : Str), ("NoWalk" : Str), ("Cut" : Str), ("Shut" : Str), ("Unknown" : Str), ("Thing" : Str), ("Book" : Str), ("Going" : Str), ("Frame" : Str), ("World" : Str)]
theorem run0 (w : World) (b : Bool) (e : b = false) : HandSHeadRun.RunEq R (PySem.W.view R.prog [85]) hk ob 15740 loose (w.withFollow "special-get-raises" b) := by
  subst e
  intro os
  kernel_rfl
theorem run1 (w : World) (b : Bool) (e : b = true) : HandSHeadRun.RunEq R (PySem.W.view R.prog [85]) hk ob 15740 loose (w.withFollow "special-get-raises" b) := by
  subst e
  intro os
  kernel_rfl
theorem run (w : World) : HandSHeadRun.RunEq R (PySem.W.view R.prog [85]) hk ob 15740 loose w := PySem.W.byRow2 "special-get-raises" (P := fun w => HandSHeadRun.RunEq R (PySem.W.view R.prog [85]) hk ob 15740 loose w) (fun w => run0 w _ rfl) (fun w => run1 w _ rfl) w

end K16

set_option maxRecDepth 100000
/-! ML0: mini values, mini heap, the relation to the abstract heap. -/
namespace ML
open PySem PySem.Spec PyProof.Rows L2

/-- a mini value: tuples are trees, and lists that nobody changes (fl); what can change is a number -/
inductive MV where
  | non | bl (b : Bool) | int (i : Int) | str (x : Str) | tup (xs : List MV) | fl (xs : List MV) | ref (n : Nat) | glo (x : Str)
  deriving Inhabited
/-- what stands in a mini cell -/
inductive MO where
  | lst (xs : List MV)
  | dK (kvs : List (Key × MV))
  | dT (kvs : List (List Key × MV))
  | dN (kvs : List (NestedKey × MV))
  | ins (c : Str) (fs : List (Str × MV))
  | exc (c : Str) (fs : List (Str × MV))
  | frz (o : MO)
  deriving Inhabited
abbrev MH := List MO
/-- a result -/
inductive MR (α : Type) where
  | ok (a : α) (h : MH) | exn (c : Str) (fs : List (Str × MV)) (h : MH) | stuck
abbrev Loc := List (Option MV)
abbrev MEx := Loc → MH → MR MV
abbrev MBx := Loc → MH → MR Bool
abbrev MLx := Loc → MH → MR (List MV)
/-- a statement's result -/
inductive MS where
  | nx (l : Loc) (h : MH) | rt (v : MV) (h : MH) | bk (l : Loc) (h : MH) | ct (l : Loc) (h : MH) | exn (c : Str) (fs : List (Str × MV)) (l : Loc) (h : MH) | stuck
abbrev MSt := Loc → MH → MS
def MR.bind {α β : Type} (r : MR α) (k : α → MH → MR β) : MR β := match r with
  | .ok a h => k a h
  | .exn c fs h => .exn c fs h
  | .stuck => .stuck
@[simp] theorem MR.bind_ok {α β : Type} (a : α) (h : MH) (k : α → MH → MR β) : (MR.ok a h).bind k = k a h := rfl
@[simp] theorem MR.bind_exn {α β : Type} (c : Str) (fs : List (Str × MV)) (h : MH) (k : α → MH → MR β) : (MR.exn c fs h : MR α).bind k = .exn c fs h := rfl
@[simp] theorem MR.bind_stuck {α β : Type} (k : α → MH → MR β) : (MR.stuck : MR α).bind k = .stuck := rfl
def MS.bind (r : MS) (k : MSt) : MS := match r with
  | .nx l h => k l h
  | r => r
@[simp] theorem MS.bind_nx (l h) (k : MSt) : (MS.nx l h).bind k = k l h := rfl
@[simp] theorem MS.bind_rt (v h) (k : MSt) : (MS.rt v h).bind k = .rt v h := rfl
@[simp] theorem MS.bind_bk (v h) (k : MSt) : (MS.bk v h).bind k = .bk v h := rfl
@[simp] theorem MS.bind_ct (v h) (k : MSt) : (MS.ct v h).bind k = .ct v h := rfl
@[simp] theorem MS.bind_exn (c fs l h) (k : MSt) : (MS.exn c fs l h).bind k = .exn c fs l h := rfl
@[simp] theorem MS.bind_stuck (k : MSt) : (MS.stuck).bind k = .stuck := rfl

/-! ### the relation -/
mutual
/-- a tuple of ints, at any depth, as a dict's key -/
def keyOf : MV → Option NestedKey
  | .int i => some (.num i)
  | .tup xs => (keysOf xs).map .tup
  | _ => none
def keysOf : List MV → Option (List NestedKey)
  | [] => some []
  | x :: xs => (keyOf x).bind fun k => (keysOf xs).map (k :: ·)
end
mutual
/-- .. and back -/
def mvOf : NestedKey → MV
  | .none => .non
  | .num i => .int i
  | .text x => .str x
  | .tup ks => .tup (mvsOf ks)
def mvsOf : List NestedKey → List MV
  | [] => []
  | k :: ks => mvOf k :: mvsOf ks
end
mutual
theorem mvOf_key : ∀ (x : MV) (k : NestedKey), keyOf x = some k → mvOf k = x
  | .int i, k, e => by cases e; rfl
  | .tup xs, k, e => by
    unfold keyOf at e
    obtain ⟨ks, e1, rfl⟩ := Option.map_eq_some_iff.mp e
    unfold mvOf; rw [mvsOf_keys xs ks e1]
  | .non, _, e => by cases e
  | .bl _, _, e => by cases e
  | .str _, _, e => by cases e
  | .fl _, _, e => by cases e
  | .ref _, _, e => by cases e
  | .glo _, _, e => by cases e
theorem mvsOf_keys : ∀ (xs : List MV) (ks : List NestedKey), keysOf xs = some ks → mvsOf ks = xs
  | [], ks, e => by cases e; rfl
  | x :: xs, ks, e => by
    unfold keysOf at e
    obtain ⟨k, e1, e2⟩ := Option.bind_eq_some_iff.mp e
    obtain ⟨ks', e3, rfl⟩ := Option.map_eq_some_iff.mp e2
    unfold mvsOf; rw [mvOf_key x k e1, mvsOf_keys xs ks' e3]
end
mutual
/-- its hash leans on no text -/
theorem hash_free : ∀ (x : MV) (k : NestedKey) (w w' : World), keyOf x = some k → k.hash w = k.hash w'
  | .int i, k, w, w', e => by cases e; rfl
  | .tup xs, k, w, w', e => by
    unfold keyOf at e
    obtain ⟨ks, e1, rfl⟩ := Option.map_eq_some_iff.mp e
    unfold NestedKey.hash; rw [hashes_free xs ks w w' e1]
  | .non, _, _, _, e => by cases e
  | .bl _, _, _, _, e => by cases e
  | .str _, _, _, _, e => by cases e
  | .fl _, _, _, _, e => by cases e
  | .ref _, _, _, _, e => by cases e
  | .glo _, _, _, _, e => by cases e
theorem hashes_free : ∀ (xs : List MV) (ks : List NestedKey) (w w' : World), keysOf xs = some ks → NestedKey.hashes w ks = NestedKey.hashes w' ks
  | [], ks, _, _, e => by cases e; rfl
  | x :: xs, ks, w, w', e => by
    unfold keysOf at e
    obtain ⟨k, e1, e2⟩ := Option.bind_eq_some_iff.mp e
    obtain ⟨ks', e3, rfl⟩ := Option.map_eq_some_iff.mp e2
    unfold NestedKey.hashes; rw [hash_free x k w w' e1, hashes_free xs ks' w w' e3]
end
/-- at a: a dict whose keys are tuples of ints, at any depth -/
def DNP (a : Addr) (xs : List (NestedKey × Addr × Value)) : Heap → Prop := fun h =>
  xs.length ≤ sizeLine ∧ (a == sysModules) = false ∧ (xs.map (·.1)).Nodup ∧ ∃ o es ep, h.get? a = some o ∧ o.ExactDict ∧ o.data = .dict es ep ∧ ∀ w : World, es.toList = xs.map fun x => ⟨x.1.hash w, .ref x.2.1, x.2.2⟩
/-- at a: an exception held as a value -/
def ExP (cls : Value) (d : Option Addr) (a : Addr) : Heap → Prop := fun h => ∃ (oe : Obj) (vs : Array Value), h.get? a = some oe ∧ Zc cls d oe ∧ oe.data = .fields vs
/-- a list of the module, exactly -/
def KLst (K : PySem.W.Frag) (p : Addr) (vs : List V) : Prop := ∃ (its : List Value) (n : Nat), K.lookup p = some { cls := .type "list", data := .seq its.toArray n } ∧ its.length ≤ sizeLine ∧ Vals vs its
section
variable (K : PySem.W.Frag) (mg : Str → Option Value) (γ ι : List Addr) (H : Hp)
mutual
inductive VR : MV → V → Prop
  | non : VR .non .non
  | bl (b) : VR (.bl b) (.bl b)
  | int (i) : VR (.int i) (.int i)
  | str (x) : VR (.str x) (.str x)
  | tup {xs p vs} : (H p = some (.tup vs) ∨ (∀ H', SqT K H' p vs)) → VRs xs vs → VR (.tup xs) (.ref p)
  | fl {xs p vs} : (H p = some (.lst vs) ∨ ∃ o, H p = some (.frz o (.lst vs))) → p ∉ ι → p ∉ γ → VRs xs vs → VR (.fl xs) (.ref p)
  | flK {xs p vs} : KLst K p vs → VRs xs vs → VR (.fl xs) (.ref p)
  | ref {n a} : ι[n]? = some a → VR (.ref n) (.ref a)
  | glo {x a} : mg x = some (.ref a) → VR (.glo x) (.ref a)
inductive VRs : List MV → List V → Prop
  | nil : VRs [] []
  | cons {x v xs vs} : VR x v → VRs xs vs → VRs (x :: xs) (v :: vs)
end
inductive FR {κ : Type} : List (κ × MV) → List (κ × V) → Prop
  | nil : FR [] []
  | cons {k x v xs vs} : VR K mg γ ι H x v → FR xs vs → FR ((k, x) :: xs) ((k, v) :: vs)
/-- the pairs of a dict whose keys are tuples of any depth -/
inductive NR : List (NestedKey × MV) → List (NestedKey × Addr × Value) → Prop
  | nil : NR [] []
  | cons {y v u k p kvs xs} : k.depth ≤ 8 → VR K mg γ ι H (mvOf k) (.ref p) → VR K mg γ ι H y v → RelV v u → NR kvs xs → NR ((k, y) :: kvs) ((k, p, u) :: xs)
/-- what a cell holds -/
inductive CR (a : Addr) : MO → HO → Prop
  | lst {xs vs} : VRs K mg γ ι H xs vs → CR a (.lst xs) (.lst vs)
  | dK {xs vs} : FR K mg γ ι H xs vs → CR a (.dK xs) (.dK vs)
  | dT {xs vs} : FR K mg γ ι H xs vs → CR a (.dT xs) (.dT vs)
  | dN {kvs xs} : NR K mg γ ι H kvs xs → CR a (.dN kvs) (.ext (DNP a xs))
  | ins {c C dx fs gs} : mg c = some (.ref C) → FR K mg γ ι H fs gs → CR a (.ins c fs) (.ins C dx gs)
  | exc0 {c C} : mg c = some (.ref C) → CR a (.exc c []) (.ext (ExP (.ref C) none a))
  | exc1 {c C d f fs gs} : mg c = some (.ref C) → H d = some (.xd gs) → d ∉ ι → d ∉ γ → FR K mg γ ι H (f :: fs) gs → CR a (.exc c (f :: fs)) (.ext (ExP (.ref C) (some d) a))
  | frz {o ob w} : CR a o w → CR a (.frz o) (.frz ob w)
def SimH (h : MH) : Prop := ι.length = h.length ∧ ι.Nodup ∧ (∀ (n : Nat) (o : MO) (a : Addr), h[n]? = some o → ι[n]? = some a → ∃ w, H a = some w ∧ CR K mg γ ι H a o w) ∧ ∀ d ∈ γ, d ∉ ι ∧ ∃ vs, H d = some (.lst vs)
inductive LR : Loc → L2.St → Prop
  | nil : LR [] []
  | skip {v xs vs} : LR xs vs → LR (none :: xs) (v :: vs)
  | has {x v xs vs} : VR K mg γ ι H x v → LR xs vs → LR (some x :: xs) (some v :: vs)
end
/-- the later heap: what is not ours stays, ours grow -/
structure Ext (ι : List Addr) (H : Hp) (ι' : List Addr) (H' : Hp) : Prop where
  pre : ι <+: ι'
  keep : ∀ b o, H b = some o → b ∉ ι → H' b = some o
  fresh : ∀ b ∈ ι', b ∉ ι → H b = none
  frz : ∀ b o w, H b = some (.frz o w) → H' b = some (.frz o w)
theorem Ext.refl (ι H) : Ext ι H ι H := ⟨List.prefix_refl _, fun _ _ e _ => e, fun _ h n => absurd h n, fun _ _ _ e => e⟩
theorem Ext.trans {ι H ι1 H1 ι2 H2} (a : Ext ι H ι1 H1) (b : Ext ι1 H1 ι2 H2) : Ext ι H ι2 H2 := by
  refine ⟨a.pre.trans b.pre, fun c o e n => ?_, fun c hc n => ?_, fun c o w e => b.frz c o w (a.frz c o w e)⟩
  · by_cases h : c ∈ ι1
    · have := a.fresh c h n
      rw [e] at this; cases this
    · exact b.keep c o (a.keep c o e n) h
  · by_cases h : c ∈ ι1
    · exact a.fresh c h n
    · cases e : H c with
      | none => rfl
      | some o =>
        have := a.keep c o e n
        rw [b.fresh c hc h] at this; cases this

section
variable {K : PySem.W.Frag} {mg : Str → Option Value} {γ γ' ι ι' : List Addr} {H H' : Hp}
theorem SimH.not_tup {h : MH} (s : SimH K mg γ ι H h) {p vs} (e : H p = some (.tup vs)) : p ∉ ι := by
  intro hp
  obtain ⟨n, hn, e1⟩ := List.getElem_of_mem hp
  have hn' : n < h.length := by rw [← s.1]; exact hn
  obtain ⟨w, hw, c⟩ := s.2.2.1 n h[n] p (List.getElem?_eq_getElem hn') (by rw [List.getElem?_eq_getElem hn, e1])
  rw [e] at hw; cases hw; revert c; generalize h[n] = o; intro c; cases c
/-- how values stay: ι grows, tuples stay, what is no cell and not hidden stays so -/
structure Grow (γ ι : List Addr) (H : Hp) (γ' ι' : List Addr) (H' : Hp) : Prop where
  pre : ι <+: ι'
  tups : ∀ p vs, H p = some (.tup vs) → H' p = some (.tup vs)
  keep : ∀ p o, H p = some o → p ∉ ι → p ∉ γ → p ∉ ι' ∧ p ∉ γ' ∧ H' p = some o
theorem Ext.out (e : Ext ι H ι' H') {p o} (q : H p = some o) (n : p ∉ ι) : p ∉ ι' := fun z => by rw [e.fresh p z n] at q; cases q
theorem Ext.grow {h : MH} (e : Ext ι H ι' H') (s : SimH K mg γ ι H h) : Grow γ ι H γ ι' H' := ⟨e.pre, fun p vs q => e.keep p _ q (s.not_tup q), fun p o q n g => ⟨e.out q n, g, e.keep p o q n⟩⟩
/-- the same heap, fresh things hidden -/
theorem Grow.hide (h : ∀ d ∈ γ', d ∈ γ ∨ H d = none) : Grow γ ι H γ' ι H := ⟨List.prefix_refl _, fun _ _ e => e, fun p o q n g => ⟨n, fun z => (h p z).elim g (fun z => by rw [z] at q; cases q), q⟩⟩
theorem Grow.trans {γ2 ι2 H2} (a : Grow γ ι H γ' ι' H') (b : Grow γ' ι' H' γ2 ι2 H2) : Grow γ ι H γ2 ι2 H2 := ⟨a.pre.trans b.pre, fun p vs e => b.tups p vs (a.tups p vs e), fun p o q n g =>
  let ⟨h1, h2, h3⟩ := a.keep p o q n g
  b.keep p o h3 h1 h2⟩
theorem Grow.get (g : Grow γ ι H γ' ι' H') {n : Nat} {a : Addr} (e : ι[n]? = some a) : ι'[n]? = some a := by
  obtain ⟨t, rfl⟩ := g.pre
  rw [List.getElem?_append_left (List.getElem?_eq_some_iff.mp e).1]; exact e
mutual
theorem VR.mono (g : Grow γ ι H γ' ι' H') : ∀ {x v}, VR K mg γ ι H x v → VR K mg γ' ι' H' x v
  | _, _, .non => .non
  | _, _, .bl b => .bl b
  | _, _, .int i => .int i
  | _, _, .str x => .str x
  | _, _, .tup h r => .tup (h.elim (fun q => .inl (g.tups _ _ q)) .inr) (VRs.mono g r)
  | _, _, .fl h n n2 r => by
    obtain ⟨o, q⟩ : ∃ o, H _ = some o := h.elim (fun z => ⟨_, z⟩) fun ⟨o, z⟩ => ⟨_, z⟩
    obtain ⟨h1, h2, h3⟩ := g.keep _ _ q n n2
    exact .fl (h.elim (fun z => .inl (by rw [z] at q; cases q; exact h3)) fun ⟨ob, z⟩ => .inr ⟨ob, by rw [z] at q; cases q; exact h3⟩) h1 h2 (VRs.mono g r)
  | _, _, .flK h r => .flK h (VRs.mono g r)
  | _, _, .ref e => .ref (g.get e)
  | _, _, .glo e => .glo e
theorem VRs.mono (g : Grow γ ι H γ' ι' H') : ∀ {x v}, VRs K mg γ ι H x v → VRs K mg γ' ι' H' x v
  | _, _, .nil => .nil
  | _, _, .cons a b => .cons (VR.mono g a) (VRs.mono g b)
end
theorem FR.mono (g : Grow γ ι H γ' ι' H') {κ : Type} {x : List (κ × MV)} {v : List (κ × V)} (h : FR K mg γ ι H x v) : FR K mg γ' ι' H' x v := by
  induction h with
  | nil => exact .nil
  | cons a b ih => exact .cons (a.mono g) ih
theorem NR.mono (g : Grow γ ι H γ' ι' H') {x v} (h : NR K mg γ ι H x v) : NR K mg γ' ι' H' x v := by
  induction h with
  | nil => exact .nil
  | cons a b c d e ih => exact .cons a (b.mono g) (c.mono g) d ih
theorem CR.mono (g : Grow γ ι H γ' ι' H') {a o w} (h : CR K mg γ ι H a o w) : CR K mg γ' ι' H' a o w := by
  induction h with
  | lst r => exact .lst (r.mono g)
  | dK r => exact .dK (r.mono g)
  | dT r => exact .dT (r.mono g)
  | dN r => exact .dN (r.mono g)
  | exc0 e => exact .exc0 e
  | exc1 e h1 h2 h3 r =>
    obtain ⟨n1, n2, n3⟩ := g.keep _ _ h1 h2 h3
    exact .exc1 e n3 n1 n2 (r.mono g)
  | ins e r => exact .ins e (r.mono g)
  | frz c ih => exact .frz ih
theorem LR.mono (g : Grow γ ι H γ' ι' H') {x v} (h : LR K mg γ ι H x v) : LR K mg γ' ι' H' x v := by
  induction h with
  | nil => exact .nil
  | skip a ih => exact .skip ih
  | has a b ih => exact .has (a.mono g) ih
theorem VRs.length : ∀ {xs vs}, VRs K mg γ ι H xs vs → xs.length = vs.length
  | _, _, .nil => rfl
  | _, _, .cons _ b => by rw [List.length_cons, List.length_cons, VRs.length b]
theorem VRs.get : ∀ {xs vs} {i : Nat} {x : MV}, VRs K mg γ ι H xs vs → xs[i]? = some x → ∃ v, vs[i]? = some v ∧ VR K mg γ ι H x v
  | _, _, _, _, .nil, e => by simp at e
  | _, _, 0, _, .cons a _, e => by simp at e; subst e; exact ⟨_, rfl, a⟩
  | _, _, i + 1, _, .cons _ b, e => by
    obtain ⟨v, h1, h2⟩ := VRs.get (i := i) b (by simpa using e)
    exact ⟨v, by simpa using h1, h2⟩
theorem VRs.append : ∀ {xs vs ys ws}, VRs K mg γ ι H xs vs → VRs K mg γ ι H ys ws → VRs K mg γ ι H (xs ++ ys) (vs ++ ws)
  | _, _, _, _, .nil, h => h
  | _, _, _, _, .cons a b, h => .cons a (VRs.append b h)
theorem VRs.one {x v} (h : VR K mg γ ι H x v) : VRs K mg γ ι H [x] [v] := .cons h .nil
theorem VRs.take : ∀ {xs vs} (n : Nat), VRs K mg γ ι H xs vs → VRs K mg γ ι H (xs.take n) (vs.take n)
  | _, _, 0, _ => by simp; exact .nil
  | _, _, n + 1, .nil => .nil
  | _, _, n + 1, .cons a b => .cons a (VRs.take n b)
theorem VRs.drop : ∀ {xs vs} (n : Nat), VRs K mg γ ι H xs vs → VRs K mg γ ι H (xs.drop n) (vs.drop n)
  | _, _, 0, h => h
  | _, _, n + 1, .nil => .nil
  | _, _, n + 1, .cons a b => VRs.drop n b
theorem VRs.reverse {xs vs} (h : VRs K mg γ ι H xs vs) : VRs K mg γ ι H xs.reverse vs.reverse := by
  match h with
  | .nil => exact .nil
  | .cons a b => rw [List.reverse_cons, List.reverse_cons]; exact (VRs.reverse b).append (.one a)
theorem VRs.set : ∀ {xs vs} {x v} (i : Nat), VRs K mg γ ι H xs vs → VR K mg γ ι H x v → VRs K mg γ ι H (xs.set i x) (vs.set i v)
  | _, _, _, _, _, .nil, _ => .nil
  | _, _, _, _, 0, .cons _ b, h => .cons h b
  | _, _, _, _, i + 1, .cons a b, h => .cons a (VRs.set i b h)
theorem VRs.eraseIdx : ∀ {xs vs} (i : Nat), VRs K mg γ ι H xs vs → VRs K mg γ ι H (xs.eraseIdx i) (vs.eraseIdx i)
  | _, _, _, .nil => .nil
  | _, _, 0, .cons _ b => b
  | _, _, i + 1, .cons a b => .cons a (VRs.eraseIdx i b)
theorem VRs.dropLast {xs vs} (h : VRs K mg γ ι H xs vs) : VRs K mg γ ι H xs.dropLast vs.dropLast := by
  rw [List.dropLast_eq_take, List.dropLast_eq_take, h.length]; exact h.take _
theorem VRs.rep {xs vs} (h : VRs K mg γ ι H xs vs) : ∀ k : Nat, VRs K mg γ ι H (List.replicate k xs).flatten (List.replicate k vs).flatten
  | 0 => .nil
  | k + 1 => by rw [List.replicate_succ, List.replicate_succ, List.flatten_cons, List.flatten_cons]; exact h.append (VRs.rep h k)
theorem LR.get {l σ} (r : LR K mg γ ι H l σ) : ∀ {i : Nat} {x : MV}, l[i]? = some (some x) → ∃ v, σ[i]? = some (some v) ∧ VR K mg γ ι H x v := by
  induction r with
  | nil => intro i x e; simp at e
  | skip a ih =>
    intro i x e
    cases i with
    | zero => simp at e
    | succ i => simpa using ih (i := i) (x := x) (by simpa using e)
  | has a b ih =>
    intro i x e
    cases i with
    | zero => simp at e; subst e; exact ⟨_, rfl, a⟩
    | succ i => simpa using ih (i := i) (x := x) (by simpa using e)
theorem LR.set {l σ} (r : LR K mg γ ι H l σ) {x v} (q : VR K mg γ ι H x v) : ∀ (i : Nat), LR K mg γ ι H (l.set i (some x)) (σ.set i (some v)) := by
  induction r with
  | nil => intro i; exact .nil
  | skip a ih =>
    intro i
    cases i with
    | zero => exact .has q a
    | succ i => exact .skip (ih i)
  | has a b ih =>
    intro i
    cases i with
    | zero => exact .has q b
    | succ i => exact .has a (ih i)
theorem LR.unset {l σ} (r : LR K mg γ ι H l σ) {v} : ∀ (i : Nat), LR K mg γ ι H (l.set i none) (σ.set i v) := by
  induction r with
  | nil => intro i; exact .nil
  | skip a ih =>
    intro i
    cases i with
    | zero => exact .skip a
    | succ i => exact .skip (ih i)
  | has a b ih =>
    intro i
    cases i with
    | zero => exact .skip b
    | succ i => exact .has a (ih i)
theorem LR.start {xs vs} (h : VRs K mg γ ι H xs vs) (n : Nat) : LR K mg γ ι H (xs.map some ++ List.replicate n none) (vs.map some ++ List.replicate n none) := by
  match h with
  | .nil =>
    simp
    induction n with
    | zero => exact .nil
    | succ n ih => rw [List.replicate_succ]; exact .skip ih
  | .cons a b => exact .has a (LR.start b n)
/-! ### cells -/
theorem SimH.cell {h : MH} (s : SimH K mg γ ι H h) {n : Nat} {o : MO} (e : h[n]? = some o) {a : Addr} (ea : ι[n]? = some a) : ∃ w, H a = some w ∧ CR K mg γ ι H a o w := s.2.2.1 n o a e ea
theorem SimH.addr {h : MH} (s : SimH K mg γ ι H h) {n : Nat} {o : MO} (e : h[n]? = some o) : ∃ a, ι[n]? = some a := by
  have hn := (List.getElem?_eq_some_iff.mp e).1
  exact ⟨ι[n]'(by rw [s.1]; exact hn), List.getElem?_eq_getElem _⟩
theorem SimH.lt {h : MH} (s : SimH K mg γ ι H h) {n : Nat} {a : Addr} (e : ι[n]? = some a) : n < h.length := by
  rw [← s.1]; exact (List.getElem?_eq_some_iff.mp e).1
/-- a cell changed -/
theorem SimH.put {h : MH} (s : SimH K mg γ ι H h) {n : Nat} {a : Addr} {o : MO} {w : HO} (ea : ι[n]? = some a) (c : CR K mg γ ι H a o w) : SimH K mg γ ι (upd H a w) (h.set n o) ∧ ((∀ o w, H a ≠ some (.frz o w)) → Ext ι H ι (upd H a w)) := by
  have hmem : a ∈ ι := List.mem_of_getElem? ea
  have g : Grow γ ι H γ ι (L2.upd H a w) := ⟨List.prefix_refl _, fun p vs q => by
    rw [upd_ne (fun z => s.not_tup q (by rw [z]; exact hmem))]; exact q, fun p o q n g => ⟨n, g, by rw [upd_ne (fun z => n (by rw [z]; exact hmem))]; exact q⟩⟩
  refine ⟨⟨by rw [List.length_set]; exact s.1, s.2.1, fun m u b e eb => ?_, fun d hd => ⟨(s.2.2.2 d hd).1, by rw [upd_ne (fun z => (s.2.2.2 d hd).1 (by rw [z]; exact hmem))]; exact (s.2.2.2 d hd).2⟩⟩, fun nf => ⟨List.prefix_refl _, fun b u e nb => by rw [upd_ne (fun z => nb (by rw [z]; exact hmem))]; exact e, fun b hb nb => absurd hb nb, fun b o w e => by rw [upd_ne (fun z => nf o w (by rw [← z]; exact e))]; exact e⟩⟩
  by_cases hm : n = m
  · subst hm
    rw [ea] at eb; cases eb
    rw [List.getElem?_set_self (s.lt ea)] at e; cases e
    exact ⟨w, upd_same, c.mono g⟩
  · rw [List.getElem?_set_ne hm] at e
    obtain ⟨w', hw, cw⟩ := s.2.2.1 m u b e eb
    have hba : b ≠ a := fun z => by
      obtain ⟨h1, e1⟩ := List.getElem?_eq_some_iff.mp ea
      obtain ⟨h2, e2⟩ := List.getElem?_eq_some_iff.mp eb
      exact hm ((List.getElem_inj s.2.1).mp (e1.trans (z.symm.trans e2.symm)))
    exact ⟨w', by rw [upd_ne hba]; exact hw, cw.mono g⟩
/-- a new cell -/
theorem SimH.alloc {h : MH} (s : SimH K mg γ ι H h) {p : Addr} {o : MO} {w : HO} (hp : H p = none) (c : CR K mg γ ι H p o w) : SimH K mg γ (ι ++ [p]) (upd H p w) (h ++ [o]) ∧ Ext ι H (ι ++ [p]) (upd H p w) ∧ (ι ++ [p])[h.length]? = some p := by
  have hni : p ∉ ι := fun hm => by
    obtain ⟨n, hn, e1⟩ := List.getElem_of_mem hm
    obtain ⟨w', hw, _⟩ := s.2.2.1 n (h[n]'(by rw [← s.1]; exact hn)) p (List.getElem?_eq_getElem _) (by rw [List.getElem?_eq_getElem hn, e1])
    rw [hp] at hw; cases hw
  have g : Grow γ ι H γ (ι ++ [p]) (L2.upd H p w) := ⟨List.prefix_append _ _, fun q vs e => by rw [upd_ne (ne_of_none e hp)]; exact e, fun q o e n g => ⟨fun z => (List.mem_append.mp z).elim n (fun z => by simp at z; subst z; rw [hp] at e; cases e), g, by rw [upd_ne (ne_of_none e hp)]; exact e⟩⟩
  have last : (ι ++ [p])[h.length]? = some p := by rw [← s.1, List.getElem?_append_right (Nat.le_refl _)]; simp
  refine ⟨⟨by simp [s.1], ?_, fun m u b e eb => ?_, fun d hd => ?_⟩, ⟨List.prefix_append _ _, fun b u e _ => by rw [upd_ne (ne_of_none e hp)]; exact e, fun b hb nb => ?_, fun b o w e => by rw [upd_ne (ne_of_none e hp)]; exact e⟩, last⟩
  · rw [List.nodup_append]
    exact ⟨s.2.1, by simp, fun x hx y hy z => by simp at hy; subst hy; subst z; exact hni hx⟩
  · by_cases hm : m < h.length
    · rw [List.getElem?_append_left hm] at e
      rw [List.getElem?_append_left (by rw [s.1]; exact hm)] at eb
      obtain ⟨w', hw, cw⟩ := s.2.2.1 m u b e eb
      exact ⟨w', by rw [upd_ne (ne_of_none hw hp)]; exact hw, cw.mono g⟩
    · have hmm : m = h.length := by
        have := (List.getElem?_eq_some_iff.mp e).1
        simp at this; omega
      subst hmm
      rw [last] at eb; cases eb
      rw [List.getElem?_append_right (Nat.le_refl _)] at e
      simp at e; subst e
      exact ⟨w, upd_same, c.mono g⟩
  · obtain ⟨n1, vs, e⟩ := s.2.2.2 d hd
    exact ⟨fun z => (List.mem_append.mp z).elim n1 (fun z => by simp at z; subst z; rw [hp] at e; cases e), vs, by rw [upd_ne (ne_of_none e hp)]; exact e⟩
  · rcases List.mem_append.mp hb with z | z
    · exact absurd z nb
    · simp at z; subst z; exact hp
/-- something of no cell laid: a tuple -/
theorem SimH.lay {h : MH} (s : SimH K mg γ ι H h) {p : Addr} {w : HO} (hp : H p = none) : SimH K mg γ ι (upd H p w) h ∧ Ext ι H ι (upd H p w) := by
  have g : Grow γ ι H γ ι (L2.upd H p w) := ⟨List.prefix_refl _, fun q vs e => by rw [upd_ne (ne_of_none e hp)]; exact e, fun q o e n g => ⟨n, g, by rw [upd_ne (ne_of_none e hp)]; exact e⟩⟩
  refine ⟨⟨s.1, s.2.1, fun m u b e eb => ?_, fun d hd => ⟨(s.2.2.2 d hd).1, by
    obtain ⟨_, vs, e⟩ := s.2.2.2 d hd
    exact ⟨vs, by rw [upd_ne (ne_of_none e hp)]; exact e⟩⟩⟩, List.prefix_refl _, fun b u e _ => by rw [upd_ne (ne_of_none e hp)]; exact e, fun b hb nb => absurd hb nb, fun b o w e => by rw [upd_ne (ne_of_none e hp)]; exact e⟩
  obtain ⟨w', hw, cw⟩ := s.2.2.1 m u b e eb
  exact ⟨w', by rw [upd_ne (ne_of_none hw hp)]; exact hw, cw.mono g⟩
end
end ML

set_option maxRecDepth 100000
/-! ML1: what follows a result, the judgements, names, constants, binary steps, tests, statements. -/
namespace ML
open PySem PySem.Spec PyProof.Rows L2

/-- an exception: its class by name, its fields -/
inductive XR (K : PySem.W.Frag) (mg : Str → Option Value) (γ ι : List Addr) (H : Hp) : Str → List (Str × MV) → Value → Option Addr → Prop
  | bare {c C} : mg c = some (.ref C) → XR K mg γ ι H c [] (.ref C) none
  | flds {c C d f fs gs} : mg c = some (.ref C) → H d = some (.xd gs) → d ∉ ι → FR K mg γ ι H (f :: fs) gs → XR K mg γ ι H c (f :: fs) (.ref C) (some d)

/-- a relation of results: what is hidden, the heap at the start, what stands behind -/
abbrev Rel (α β : Type) := List Addr → Hp → List Addr → Hp → MH → α → β → Prop
class RM {α β : Type} (rel : Rel α β) : Prop where
  mono : ∀ {γ ι H ι1 H1 ι' H' h x b}, Ext ι H ι1 H1 → Ext ι1 H1 ι' H' → rel γ H1 ι' H' h x b → rel γ H ι' H' h x b
abbrev W0 : WX := fun _ _ _ _ => False
section
variable (X : Cx) (W : WX)
def Post {α β : Type} (rel : Rel α β) (γ : List Addr) (σ : L2.St) (r : MR α) (ι : List Addr) (H : Hp) (Q : β → Hp → Prop) : Prop := match r with
  | .ok v h => ∀ ι' b H', Ext ι H ι' H' → rel γ H ι' H' h v b → Q b H'
  | .exn c fs h => ∀ ι' cls d H', Ext ι H ι' H' → SimH X.K X.mg γ ι' H' h → XR X.K X.mg γ ι' H' c fs cls d → W cls d σ H'
  | .stuck => False
def PostS (γ : List Addr) (r : MS) (ι : List Addr) (H : Hp) (D : Ends) : Prop := match r with
  | .nx l h => ∀ ι' σ' H', Ext ι H ι' H' → SimH X.K X.mg γ ι' H' h → LR X.K X.mg γ ι' H' l σ' → D.nx σ' H'
  | .rt v h => ∀ ι' b H', Ext ι H ι' H' → SimH X.K X.mg γ ι' H' h → VR X.K X.mg γ ι' H' v b → D.rt b H'
  | .bk l h => ∀ ι' σ' H', Ext ι H ι' H' → SimH X.K X.mg γ ι' H' h → LR X.K X.mg γ ι' H' l σ' → D.bk σ' H'
  | .ct l h => ∀ ι' σ' H', Ext ι H ι' H' → SimH X.K X.mg γ ι' H' h → LR X.K X.mg γ ι' H' l σ' → D.ct σ' H'
  | .exn c fs l h => ∀ ι' σ' cls d H', Ext ι H ι' H' → SimH X.K X.mg γ ι' H' h → LR X.K X.mg γ ι' H' l σ' → XR X.K X.mg γ ι' H' c fs cls d → W cls d σ' H'
  | .stuck => False
/-- a reading by a mini function -/
def TM {α β : Type} (rel : Rel α β) (m : Loc → MH → MR α) : L2.St → Hp → (β → Hp → Prop) → Prop := fun σ H Q =>
  ∃ γ ι l h, SimH X.K X.mg γ ι H h ∧ LR X.K X.mg γ ι H l σ ∧ Post X W rel γ σ (m l h) ι H Q
def TMS (m : MSt) : TS := fun D σ H => ∃ γ ι l h, SimH X.K X.mg γ ι H h ∧ LR X.K X.mg γ ι H l σ ∧ PostS X W γ (m l h) ι H D
def rV : Rel MV V := fun γ _ ι H h x v => SimH X.K X.mg γ ι H h ∧ VR X.K X.mg γ ι H x v
def rVs : Rel (List MV) (List V) := fun γ _ ι H h x v => SimH X.K X.mg γ ι H h ∧ VRs X.K X.mg γ ι H x v
def rB : Rel Bool Bool := fun γ _ ι H h x v => SimH X.K X.mg γ ι H h ∧ x = v
/-- a fresh list: nothing else is led to it -/
def rL : Rel (List MV) V := fun γ H0 ι H h xs v => ∃ a vs, v = .ref a ∧ SimH X.K X.mg (a :: γ) ι H h ∧ H a = some (.lst vs) ∧ H0 a = none ∧ VRs X.K X.mg (a :: γ) ι H xs vs
instance : RM (rV X) := ⟨fun _ _ r => r⟩
instance : RM (rVs X) := ⟨fun _ _ r => r⟩
instance : RM (rB X) := ⟨fun _ _ r => r⟩
theorem Ext.none_back {ι H ι1 H1 ι' H'} (e : Ext ι H ι1 H1) (e' : Ext ι1 H1 ι' H') {a : Addr} (n : a ∉ ι') (h : H1 a = none) : H a = none := by
  cases q : H a with
  | none => rfl
  | some o =>
    have hn : a ∉ ι := fun z => n ((e.pre.trans e'.pre).subset z)
    rw [e.keep a o q hn] at h; cases h
instance : RM (rL X) := ⟨fun e e' ⟨a, vs, h1, h2, h3, h4, h5⟩ => ⟨a, vs, h1, h2, h3, e.none_back e' (h2.2.2.2 a List.mem_cons_self).1 h4, h5⟩⟩
def ME (e : Expr) (m : MEx) : Prop := PE X e (TM X W (rV X) m)
def MT (e : Expr) (m : MBx) : Prop := PT X e (TM X W (rB X) m)
def MW (e : Expr) (m : MBx) : Prop := PW X e (TM X W (rB X) m)
def MA (es : List Expr) (m : MLx) : Prop := PA X es (TM X W (rVs X) m)
def MLs (e : Expr) (m : MLx) : Prop := PE X e (TM X W (rL X) m)
def MSj (s : Stmt) (m : MSt) : Prop := PS X s (TMS X W m)
def MSs (s : List Stmt) (m : MSt) : Prop := PSs X s (TMS X W m)
end

section
variable {X : Cx} {W : WX} {α β ε δ : Type} {rel : Rel α β} {rel2 : Rel ε δ} [RM rel] [RM rel2] {σ : L2.St} {γ ι ι' : List Addr} {H H' : Hp}
theorem Post.mono {r : MR α} {Q : β → Hp → Prop} (p : Post X W rel γ σ r ι H Q) (e : Ext ι H ι' H') : Post X W rel γ σ r ι' H' Q := by
  cases r with
  | ok v h => exact fun ι2 b H2 e2 r => p ι2 b H2 (e.trans e2) (RM.mono e e2 r)
  | exn c fs h => exact fun ι2 c d H2 e2 s r => p ι2 c d H2 (e.trans e2) s r
  | stuck => exact p
theorem PostS.mono {r : MS} {D : Ends} (p : PostS X W γ r ι H D) (e : Ext ι H ι' H') : PostS X W γ r ι' H' D := by
  cases r with
  | nx l h => exact fun ι2 b H2 e2 s r => p ι2 b H2 (e.trans e2) s r
  | rt l h => exact fun ι2 b H2 e2 s r => p ι2 b H2 (e.trans e2) s r
  | bk l h => exact fun ι2 b H2 e2 s r => p ι2 b H2 (e.trans e2) s r
  | ct l h => exact fun ι2 b H2 e2 s r => p ι2 b H2 (e.trans e2) s r
  | exn c fs l h => exact fun ι2 s2 c d H2 e2 s r q => p ι2 s2 c d H2 (e.trans e2) s r q
  | stuck => exact p
theorem Post.imp {r : MR α} {Q Q' : β → Hp → Prop} (p : Post X W rel γ σ r ι H Q) (h : ∀ b H', Q b H' → Q' b H') : Post X W rel γ σ r ι H Q' := by
  cases r with
  | ok v h' => exact fun ι2 b H2 e2 r => h _ _ (p ι2 b H2 e2 r)
  | exn c fs h => exact p
  | stuck => exact p
theorem Post.ok {v : α} {h : MH} {Q : β → Hp → Prop} (p : Post X W rel γ σ (.ok v h) ι H Q) {b : β} (r : rel γ H ι H h v b) : Q b H := p ι b H (.refl _ _) r
theorem Post.okE {v : α} {h : MH} {Q : β → Hp → Prop} (p : Post X W rel γ σ (.ok v h) ι H Q) {b : β} (e : Ext ι H ι' H') (r : rel γ H ι' H' h v b) : Q b H' := p ι' b H' e r
/-- the first of two steps, with what is to be shown behind -/
theorem Post.seq {r : MR α} {k : α → MH → MR ε} {Q : δ → Hp → Prop} {R : β → Hp → Prop} (p : Post X W rel2 γ σ (r.bind k) ι H Q)
    (f : ∀ ι1 x h1 b H1, Ext ι H ι1 H1 → rel γ H ι1 H1 h1 x b → Post X W rel2 γ σ (k x h1) ι1 H1 Q → R b H1) : Post X W rel γ σ r ι H R := by
  cases r with
  | ok v h => exact fun ι1 b H1 e r => f ι1 v h b H1 e r (Post.mono p e)
  | exn c fs h => exact p
  | stuck => exact p
theorem PostS.imp {r : MS} {D D' : Ends} (p : PostS X W γ r ι H D) (h1 : ∀ σ H, D.nx σ H → D'.nx σ H) (h2 : ∀ b H, D.rt b H → D'.rt b H) (h3 : ∀ σ H, D.bk σ H → D'.bk σ H) (h4 : ∀ σ H, D.ct σ H → D'.ct σ H) : PostS X W γ r ι H D' := by
  cases r with
  | nx l h => exact fun ι2 b H2 e2 s r => h1 _ _ (p ι2 b H2 e2 s r)
  | rt l h => exact fun ι2 b H2 e2 s r => h2 _ _ (p ι2 b H2 e2 s r)
  | bk l h => exact fun ι2 b H2 e2 s r => h3 _ _ (p ι2 b H2 e2 s r)
  | ct l h => exact fun ι2 b H2 e2 s r => h4 _ _ (p ι2 b H2 e2 s r)
  | exn c fs l h => exact p
  | stuck => exact p
/-- an expression's step within a statement -/
def MR.toS {α : Type} (r : MR α) (l : Loc) (k : α → MH → MS) : MS := match r with
  | .ok a h => k a h
  | .exn c fs h => .exn c fs l h
  | .stuck => .stuck
@[simp] theorem MR.toS_ok {α : Type} (a : α) (h : MH) (l : Loc) (k : α → MH → MS) : (MR.ok a h).toS l k = k a h := rfl
@[simp] theorem MR.toS_exn {α : Type} (c : Str) (fs : List (Str × MV)) (h : MH) (l : Loc) (k : α → MH → MS) : (MR.exn c fs h : MR α).toS l k = .exn c fs l h := rfl
@[simp] theorem MR.toS_stuck {α : Type} (l : Loc) (k : α → MH → MS) : (MR.stuck : MR α).toS l k = .stuck := rfl
theorem PostS.run {r : MR α} {l : Loc} {k : α → MH → MS} {D : Ends} {h : MH} (s0 : SimH X.K X.mg γ ι H h) (lr : LR X.K X.mg γ ι H l σ) (p : PostS X W γ (r.toS l k) ι H D) {R : β → Hp → Prop}
    (f : ∀ ι1 x h1 b H1, Ext ι H ι1 H1 → LR X.K X.mg γ ι1 H1 l σ → rel γ H ι1 H1 h1 x b → PostS X W γ (k x h1) ι1 H1 D → R b H1) : Post X W rel γ σ r ι H R := by
  cases r with
  | ok v h => exact fun ι1 b H1 e r => f ι1 v h b H1 e (lr.mono (e.grow s0)) r (PostS.mono p e)
  | exn c fs h => exact fun ι1 cls d H1 e s x => p ι1 σ cls d H1 e s (lr.mono (e.grow s0)) x
  | stuck => exact p
theorem PostS.seq {r : MS} {k : MSt} {D : Ends} (p : PostS X W γ (r.bind k) ι H D) : PostS X W γ r ι H { D with nx := fun σ' H' => TMS X W k D σ' H' } := by
  cases r with
  | nx l h => exact fun ι1 σ' H1 e s lr => ⟨γ, ι1, l, h, s, lr, PostS.mono p e⟩
  | rt l h => exact p
  | bk l h => exact p
  | ct l h => exact p
  | exn c fs l h => exact p
  | stuck => exact p
end

/-! ### weakening of readings -/
theorem peW {X : Cx} {e : Expr} {t t' : TE} (h : PE X e t) (w : ∀ σ H Q, t' σ H Q → t σ H Q) : PE X e t' := ⟨fun pins s σ H Q I q => h.run pins s σ H Q I (w σ H Q q)⟩
theorem ptW {X : Cx} {e : Expr} {t t' : TT} (h : PT X e t) (w : ∀ σ H Q, t' σ H Q → t σ H Q) : PT X e t' := ⟨fun pins s σ H Q I q => h.run pins s σ H Q I (w σ H Q q)⟩
theorem pwW {X : Cx} {e : Expr} {t t' : TT} (h : PW X e t) (w : ∀ σ H Q, t' σ H Q → t σ H Q) : PW X e t' := ⟨fun wh pins s σ H Q I q => h.run wh pins s σ H Q I (w σ H Q q)⟩
theorem paW {X : Cx} {e : List Expr} {t t' : TA} (h : PA X e t) (w : ∀ σ H Q, t' σ H Q → t σ H Q) : PA X e t' := ⟨fun pos pins s σ H Q I q => h.run pos pins s σ H Q I (w σ H Q q)⟩
theorem psW {X : Cx} {e : Stmt} {t t' : TS} (h : PS X e t) (w : ∀ D σ H, t' D σ H → t D σ H) : PS X e t' := ⟨fun pins s σ H D I q => h.run pins s σ H D I (w D σ H q)⟩
theorem pssW {X : Cx} {e : List Stmt} {t t' : TS} (h : PSs X e t) (w : ∀ D σ H, t' D σ H → t D σ H) : PSs X e t' := ⟨fun pins s σ H D I q => h.run pins s σ H D I (w D σ H q)⟩
theorem peOr {X : Cx} {e : Expr} {t t' : TE} (h : PE X e t) (h' : PE X e t') : PE X e (fun σ H Q => t σ H Q ∨ t' σ H Q) := ⟨fun pins s σ H Q I q => q.elim (h.run pins s σ H Q I) (h'.run pins s σ H Q I)⟩
theorem psOr {X : Cx} {e : Stmt} {t t' : TS} (h : PS X e t) (h' : PS X e t') : PS X e (fun D σ H => t D σ H ∨ t' D σ H) := ⟨fun pins s σ H D I q => q.elim (h.run pins s σ H D I) (h'.run pins s σ H D I)⟩
theorem piOr {X : Cx} {tg e : Expr} {t t' : TI} (h : PI X tg e t) (h' : PI X tg e t') : PI X tg e (fun σ H R => t σ H R ∨ t' σ H R) := ⟨fun pins s σ H R I q => q.elim (h.run pins s σ H R I) (h'.run pins s σ H R I)⟩

/-! ### names and constants -/
def mv (i : Nat) : MEx := fun l h => match l[i]? with
  | some (some v) => .ok v h
  | _ => .stuck
def mc (v : MV) : MEx := fun _ h => .ok v h
section
variable {X : Cx} {W : WX}
theorem me_var (i : Nat) {x : Str} {pos : Pos} (hN : X.N[i]? = some x := by rfl) (hv : Vis X.env.scope x := by first | exact Or.inl rfl | exact Or.inr (Or.inl rfl) | exact Or.inr (Or.inr rfl)) (hd : (x == ("__debug__" : Str)) = false := by decide)
    (hcd : (x == ("__classdict__" : Str)) = false := by decide) : ME X W (.Name x pos) (mv i) := by
  refine peW (pe_var hN hv hd hcd) fun σ H Q ⟨γ, ι, l, h, s, lr, p⟩ => ?_
  unfold mv at p
  split at p
  · rename_i v e
    obtain ⟨V, e1, r⟩ := lr.get e
    exact ⟨V, e1, p.ok ⟨s, r⟩⟩
  · exact p.elim
theorem me_c {e : Expr} {v : V} {x : MV} (h : PE X e (tC v)) (r : ∀ γ ι H, VR X.K X.mg γ ι H x v) : ME X W e (mc x) :=
  peW h fun σ H Q ⟨γ, ι, l, h, s, lr, p⟩ => p.ok ⟨s, r γ ι H⟩
theorem me_int {i j pos} : ME X W (.Constant (.int i) j pos) (mc (.int i)) := me_c pe_int fun _ _ _ => .int _
theorem me_bl {i j pos} : ME X W (.Constant (.bool i) j pos) (mc (.bl i)) := me_c pe_bl fun _ _ _ => .bl _
theorem me_non {j pos} : ME X W (.Constant .none j pos) (mc .non) := me_c pe_non fun _ _ _ => .non
theorem me_str {i j pos} : ME X W (.Constant (.str i) j pos) (mc (.str i)) := me_c pe_str fun _ _ _ => .str _
/-- a module's constant -/
theorem me_gint {x : Str} {i : Int} {t : Tok} {pos : Pos} (hm : X.mg x = some (.int i t)) (hg : Gl X x := by rfl) (hd : (x == ("__debug__" : Str)) = false := by decide) : ME X W (.Name x pos) (mc (.int i)) :=
  me_c (pe_glob (v := .int i) hg hm ⟨_, rfl⟩ hd) fun _ _ _ => .int _
theorem me_gstr {x : Str} {i : Str} {t : Tok} {pos : Pos} (hm : X.mg x = some (.str i t)) (hg : Gl X x := by rfl) (hd : (x == ("__debug__" : Str)) = false := by decide) : ME X W (.Name x pos) (mc (.str i)) :=
  me_c (pe_glob (v := .str i) hg hm ⟨_, rfl⟩ hd) fun _ _ _ => .str _
theorem me_gref {x : Str} {a : Addr} {pos : Pos} (hm : X.mg x = some (.ref a)) (hg : Gl X x := by rfl) (hd : (x == ("__debug__" : Str)) = false := by decide) : ME X W (.Name x pos) (mc (.glo x)) :=
  me_c (pe_glob (v := .ref a) hg hm rfl hd) fun _ _ _ => .glo hm
/-- a module's tuple -/
theorem me_gtup {x : Str} {a : Addr} {xs : List MV} {vs : List V} {pos : Pos} (hm : X.mg x = some (.ref a)) (ht : ∀ H, SqT X.K H a vs) (hr : ∀ γ ι H, VRs X.K X.mg γ ι H xs vs) (hg : Gl X x := by rfl) (hd : (x == ("__debug__" : Str)) = false := by decide) : ME X W (.Name x pos) (mc (.tup xs)) :=
  me_c (pe_glob (v := .ref a) hg hm rfl hd) fun γ ι H => .tup (.inr ht) (hr γ ι H)

/-! ### two-place operations -/
abbrev MOp := MV → MV → MH → MR MV
def mOp (f : MOp) (a b : MEx) : MEx := fun l h => (a l h).bind fun x h1 => (b l h1).bind fun y h2 => f x y h2
/-- by values -/
def OpM (X : Cx) (F : Value → Value → Sem Value) (f : MOp) : Prop :=
  OpR X F fun V1 V2 H Q => ∃ γ ι h x y, SimH X.K X.mg γ ι H h ∧ VR X.K X.mg γ ι H x V1 ∧ VR X.K X.mg γ ι H y V2 ∧ Post X W0 (rV X) γ [] (f x y h) ι H Q
/-- no exception comes of it -/
def NoX {α : Type} (r : MR α) : Prop := ∀ c fs h, r ≠ .exn c fs h
theorem Post.w0 {α β : Type} {rel : Rel α β} {γ : List Addr} {σ : L2.St} {r : MR α} {ι : List Addr} {H : Hp} {Q : β → Hp → Prop} (p : Post X W rel γ σ r ι H Q) (n : NoX r) : Post X W0 rel γ [] r ι H Q := by
  cases r with
  | ok v h => exact p
  | exn c fs h => exact absurd rfl (n c fs h)
  | stuck => exact p
theorem bin_of {r : R2} {ma mb : MEx} {f : MOp} {σ : L2.St} {H : Hp} {Q : VK} (h : TM X W (rV X) (mOp f ma mb) σ H Q)
    (hr : ∀ γ ι h x y V1 V2 H, SimH X.K X.mg γ ι H h → VR X.K X.mg γ ι H x V1 → VR X.K X.mg γ ι H y V2 → Post X W (rV X) γ σ (f x y h) ι H Q → r V1 V2 H Q) :
    tOp r (TM X W (rV X) ma) (TM X W (rV X) mb) σ H Q := by
  obtain ⟨γ, ι, l, h, s, lr, p⟩ := h
  refine ⟨γ, ι, l, h, s, lr, p.seq fun ι1 x h1 V1 H1 e1 ⟨s1, r1⟩ p1 => ?_⟩
  refine ⟨γ, ι1, l, h1, s1, lr.mono (e1.grow s), p1.seq fun ι2 y h2 V2 H2 e2 ⟨s2, r2⟩ p2 => ?_⟩
  exact hr γ ι2 h2 x y V1 V2 H2 s2 (r1.mono (e2.grow s1)) r2 p2
theorem me_op {op : Operator} {f : MOp} {a b : Expr} {ma mb : MEx} {pos : Pos} (ho : OpM X (binaryOp op) f) (hn : ∀ x y h, NoX (f x y h)) (ha : ME X W a ma) (hb : ME X W b mb) : ME X W (.BinOp a op b pos) (mOp f ma mb) :=
  peW (pe_op ho ha hb) fun σ H Q h => bin_of h fun γ ι h x y V1 V2 H s r1 r2 p => ⟨γ, ι, h, x, y, s, r1, r2, p.w0 (hn _ _ _)⟩
theorem me_cmp {op : CmpOp} {f : MOp} {a b : Expr} {ma mb : MEx} {pos : Pos} (ho : OpM X (compareOp op) f) (hn : ∀ x y h, NoX (f x y h)) (ha : ME X W a ma) (hb : ME X W b mb) (hm : behindInMarks op b = false := by first | exact nomark _ | rfl) : ME X W (.Compare a [op] [b] pos) (mOp f ma mb) :=
  peW (pe_cmpR ho ha hb hm) fun σ H Q h => bin_of h fun γ ι h x y V1 V2 H s r1 r2 p => ⟨γ, ι, h, x, y, s, r1, r2, p.w0 (hn _ _ _)⟩
/-- a value's bool -/
def asB : MV → MH → MR Bool
  | .bl b, h => .ok b h
  | _, _ => .stuck
def mB (m : MEx) : MBx := fun l h => (m l h).bind asB
theorem asB_of {γ : List Addr} {σ : L2.St} {r : MR MV} {ι : List Addr} {H : Hp} {Q : Bool → Hp → Prop} (p : Post X W (rB X) γ σ (r.bind asB) ι H Q) : Post X W (rV X) γ σ r ι H fun V H' => ∃ k, V = .bl k ∧ Q k H' := by
  refine p.seq fun ι1 x h1 b H1 e ⟨s, r⟩ q => ?_
  cases x with
  | bl k => cases r; exact ⟨_, rfl, q.ok ⟨s, rfl⟩⟩
  | _ => exact q.elim
theorem mt_cmp {op : CmpOp} {f : MOp} {a b : Expr} {ma mb : MEx} {pos : Pos} (ho : OpM X (compareOp op) f) (hn : ∀ x y h, NoX (f x y h)) (ha : ME X W a ma) (hb : ME X W b mb) (hm : behindInMarks op b = false := by first | exact nomark _ | rfl) : MT X W (.Compare a [op] [b] pos) (mB (mOp f ma mb)) := by
  refine ptW (pt_cmpR ho ha hb hm) fun σ H Q ⟨γ, ι, l, h, s, lr, p⟩ => ?_
  exact bin_of (Q := fun V H' => ∃ k, V = .bl k ∧ Q k H') ⟨γ, ι, l, h, s, lr, asB_of p⟩ fun γ ι h x y V1 V2 H s r1 r2 p => ⟨γ, ι, h, x, y, s, r1, r2, p.w0 (hn _ _ _)⟩
/-- an expression that gives a bool, as a test -/
theorem mt_val {e : Expr} {m : MEx} (h : ME X W e m) (he : ∀ whole, isTrue e X.env whole = (do let v ← whole; standAt e.pos; holding [v] (truthy v)) := by intro _; rfl) : MT X W e (mB m) :=
  ptW (pt_val h he) fun σ H Q ⟨γ, ι, l, h, s, lr, p⟩ => ⟨γ, ι, l, h, s, lr, asB_of p⟩
def mBV (m : MBx) : MEx := fun l h => (m l h).bind fun b h => .ok (.bl b) h
/-! ### and, or, not -/
def mAnd (a b : MBx) : MBx := fun l h => (a l h).bind fun c h1 => if c then b l h1 else .ok false h1
def mOr (a b : MBx) : MBx := fun l h => (a l h).bind fun c h1 => if c then .ok true h1 else b l h1
def mNot (a : MBx) : MBx := fun l h => (a l h).bind fun c h1 => .ok (!c) h1
theorem mw_and1 {a : Expr} {m : MBx} {pos : Pos} (h : MT X W a m) : MW X W (.BoolOp .And [a] pos) m := pw_and1 h
theorem mw_or1 {a : Expr} {m : MBx} {pos : Pos} (h : MT X W a m) : MW X W (.BoolOp .Or [a] pos) m := pw_or1 h
theorem mw_and {a b : Expr} {rest : List Expr} {m n : MBx} {pos : Pos} (ha : MT X W a m) (hb : MW X W (.BoolOp .And (b :: rest) pos) n) : MW X W (.BoolOp .And (a :: b :: rest) pos) (mAnd m n) := by
  refine pwW (pw_and ha hb) fun σ H Q ⟨γ, ι, l, h, s, lr, p⟩ => ⟨γ, ι, l, h, s, lr, p.seq fun ι1 x h1 b H1 e1 ⟨s1, r1⟩ p1 => ?_⟩
  cases r1
  cases x with
  | true => exact ⟨γ, ι1, l, h1, s1, lr.mono (e1.grow s), p1⟩
  | false => exact p1.ok ⟨s1, rfl⟩
theorem mw_or {a b : Expr} {rest : List Expr} {m n : MBx} {pos : Pos} (ha : MT X W a m) (hb : MW X W (.BoolOp .Or (b :: rest) pos) n) : MW X W (.BoolOp .Or (a :: b :: rest) pos) (mOr m n) := by
  refine pwW (pw_or ha hb) fun σ H Q ⟨γ, ι, l, h, s, lr, p⟩ => ⟨γ, ι, l, h, s, lr, p.seq fun ι1 x h1 b H1 e1 ⟨s1, r1⟩ p1 => ?_⟩
  cases r1
  cases x with
  | false => exact ⟨γ, ι1, l, h1, s1, lr.mono (e1.grow s), p1⟩
  | true => exact p1.ok ⟨s1, rfl⟩
theorem mt_w {e : Expr} {m : MBx} (h : MW X W e m) : MT X W e m := PW.pt h
theorem mt_not {a : Expr} {m : MBx} {pos : Pos} (ha : MT X W a m) : MT X W (.UnaryOp .Not a pos) (mNot m) := by
  refine ptW (pt_not ha) fun σ H Q ⟨γ, ι, l, h, s, lr, p⟩ => ⟨γ, ι, l, h, s, lr, p.seq fun ι1 x h1 b H1 e1 ⟨s1, r1⟩ p1 => ?_⟩
  cases r1
  exact p1.ok ⟨s1, rfl⟩
/-- as values, of bools; b may be anything -/
def mAndV (a : MBx) (b : MEx) : MEx := fun l h => (a l h).bind fun c h1 => if c then b l h1 else .ok (.bl false) h1
def mOrV (a : MBx) (b : MEx) : MEx := fun l h => (a l h).bind fun c h1 => if c then .ok (.bl true) h1 else b l h1
def mNotV (a : MBx) : MEx := fun l h => (a l h).bind fun c h1 => .ok (.bl (!c)) h1
theorem me_one {op} {a : Expr} {m : MEx} {pos : Pos} (h : ME X W a m) : ME X W (.BoolOp op [a] pos) m := pe_one h
theorem me_and {a b : Expr} {rest : List Expr} {m : MEx} {n : MEx} {pos : Pos} (ha : ME X W a m) (hb : ME X W (.BoolOp .And (b :: rest) pos) n) : ME X W (.BoolOp .And (a :: b :: rest) pos) (mAndV (mB m) n) := by
  refine peW (pe_and ha hb) fun σ H Q ⟨γ, ι, l, h, s, lr, p⟩ => ⟨γ, ι, l, h, s, lr, ?_⟩
  have p : Post X W (rV X) γ σ (((m l h).bind asB).bind fun c h1 => if c then n l h1 else .ok (.bl false) h1) ι H Q := p
  cases e : m l h with
  | ok v h1 =>
    rw [e] at p
    intro ι1 V H1 e1 ⟨s1, r1⟩
    cases v with
    | bl c =>
      cases r1
      refine ⟨_, rfl, ?_⟩
      have p1 : Post X W (rV X) γ σ (if c then n l h1 else .ok (.bl false) h1) ι1 H1 Q := Post.mono p e1
      cases c with
      | true => exact ⟨γ, ι1, l, h1, s1, lr.mono (e1.grow s), p1⟩
      | false => exact p1.ok ⟨s1, .bl _⟩
    | _ => exact p.elim
  | exn c fs h1 => rw [e] at p; exact p
  | stuck => rw [e] at p; exact p
theorem me_or {a b : Expr} {rest : List Expr} {m : MEx} {n : MEx} {pos : Pos} (ha : ME X W a m) (hb : ME X W (.BoolOp .Or (b :: rest) pos) n) : ME X W (.BoolOp .Or (a :: b :: rest) pos) (mOrV (mB m) n) := by
  refine peW (pe_or ha hb) fun σ H Q ⟨γ, ι, l, h, s, lr, p⟩ => ⟨γ, ι, l, h, s, lr, ?_⟩
  have p : Post X W (rV X) γ σ (((m l h).bind asB).bind fun c h1 => if c then .ok (.bl true) h1 else n l h1) ι H Q := p
  cases e : m l h with
  | ok v h1 =>
    rw [e] at p
    intro ι1 V H1 e1 ⟨s1, r1⟩
    cases v with
    | bl c =>
      cases r1
      refine ⟨_, rfl, ?_⟩
      have p1 : Post X W (rV X) γ σ (if c then .ok (.bl true) h1 else n l h1) ι1 H1 Q := Post.mono p e1
      cases c with
      | false => exact ⟨γ, ι1, l, h1, s1, lr.mono (e1.grow s), p1⟩
      | true => exact p1.ok ⟨s1, .bl _⟩
    | _ => exact p.elim
  | exn c fs h1 => rw [e] at p; exact p
  | stuck => rw [e] at p; exact p
theorem me_not {a : Expr} {m : MEx} {pos : Pos} (ha : ME X W a m) : ME X W (.UnaryOp .Not a pos) (mNotV (mB m)) := by
  refine peW (pe_not ha) fun σ H Q ⟨γ, ι, l, h, s, lr, p⟩ => ⟨γ, ι, l, h, s, lr, ?_⟩
  have p : Post X W (rV X) γ σ (((m l h).bind asB).bind fun c h1 => .ok (.bl (!c)) h1) ι H Q := p
  cases e : m l h with
  | ok v h1 =>
    rw [e] at p
    intro ι1 V H1 e1 ⟨s1, r1⟩
    cases v with
    | bl c => cases r1; exact ⟨_, rfl, (Post.mono p e1).ok ⟨s1, .bl _⟩⟩
    | _ => exact p.elim
  | exn c fs h1 => rw [e] at p; exact p
  | stuck => rw [e] at p; exact p
/-- a if t else b -/
def mIf (c : MBx) (a b : MEx) : MEx := fun l h => (c l h).bind fun k h1 => if k then a l h1 else b l h1
theorem me_if {c a b : Expr} {mc : MBx} {ma mb : MEx} {pos : Pos} (hc : MT X W c mc) (ha : ME X W a ma) (hb : ME X W b mb) : ME X W (.IfExp c a b pos) (mIf mc ma mb) := by
  refine peW (pe_ifExp hc ha hb) fun σ H Q ⟨γ, ι, l, h, s, lr, p⟩ => ⟨γ, ι, l, h, s, lr, p.seq fun ι1 x h1 b H1 e1 ⟨s1, r1⟩ p1 => ?_⟩
  cases r1
  cases x with
  | true => exact ⟨γ, ι1, l, h1, s1, lr.mono (e1.grow s), p1⟩
  | false => exact ⟨γ, ι1, l, h1, s1, lr.mono (e1.grow s), p1⟩

/-! ### argument lists, tuples, lists -/
def maNil : MLx := fun _ h => .ok [] h
def maCons (a : MEx) (r : MLx) : MLx := fun l h => (a l h).bind fun x h1 => (r l h1).bind fun xs h2 => .ok (x :: xs) h2
theorem ma_nil : MA X W [] maNil := paW pa_nil fun σ H Q ⟨γ, ι, l, h, s, lr, p⟩ => p.ok ⟨s, .nil⟩
theorem ma_cons {e : Expr} {es : List Expr} {m : MEx} {n : MLx} (ha : ME X W e m) (hr : MA X W es n) (hs : starEach (e :: es) X.env = (false, eval e X.env) :: starEach es X.env := by rfl) : MA X W (e :: es) (maCons m n) := by
  refine paW (pa_cons ha hr hs) fun σ H Q ⟨γ, ι, l, h, s, lr, p⟩ => ⟨γ, ι, l, h, s, lr, p.seq fun ι1 x h1 b H1 e1 ⟨s1, r1⟩ p1 => ?_⟩
  refine ⟨γ, ι1, l, h1, s1, lr.mono (e1.grow s), p1.seq fun ι2 xs h2 bs H2 e2 ⟨s2, r2⟩ p2 => ?_⟩
  exact p2.ok ⟨s2, .cons (r1.mono (e2.grow s1)) r2⟩
def mTup (a : MLx) : MEx := fun l h => (a l h).bind fun xs h1 => if xs.length ≤ 16777216 then .ok (.tup xs) h1 else .stuck
theorem line_le {n : Nat} (h : n ≤ 16777216) : n ≤ sizeLine := by rw [sizeLine_eq]; exact h
theorem me_tup {es : List Expr} {k pos} {m : MLx} (ha : MA X W es m) : ME X W (.Tuple es k pos) (mTup m) := by
  refine peW (pe_tup ha) fun σ H Q ⟨γ, ι, l, h, s, lr, p⟩ => ⟨γ, ι, l, h, s, lr, p.seq fun ι1 x h1 b H1 e1 ⟨s1, r1⟩ p1 => ?_⟩
  split at p1
  · rename_i hz
    refine ⟨line_le (by rw [← r1.length]; exact hz), fun q hq => ?_⟩
    obtain ⟨s2, e2⟩ := s1.lay (w := .tup b) hq
    exact p1.okE e2 ⟨s2, .tup (.inl upd_same) (r1.mono (e2.grow s1))⟩
  · exact p1.elim
/-- a written list, fresh -/
def mLst (a : MLx) : MLx := fun l h => (a l h).bind fun xs h1 => if xs.length ≤ 16777216 then .ok xs h1 else .stuck
theorem SimH.not_in {K mg γ ι H h} (s : SimH K mg γ ι H h) {p : Addr} (hp : H p = none) : p ∉ ι := fun hm => by
  obtain ⟨n, hn, e1⟩ := List.getElem_of_mem hm
  obtain ⟨w', hw, _⟩ := s.2.2.1 n (h[n]'(by rw [← s.1]; exact hn)) p (List.getElem?_eq_getElem _) (by rw [List.getElem?_eq_getElem hn, e1])
  rw [hp] at hw; cases hw
theorem SimH.not_g {K mg γ ι H h} (s : SimH K mg γ ι H h) {p : Addr} (hp : H p = none) : p ∉ γ := fun hm => by
  obtain ⟨_, vs, e⟩ := s.2.2.2 p hm
  rw [hp] at e; cases e
/-- a list laid at a free place is hidden from all else -/
theorem SimH.layG {h : MH} {γ ι : List Addr} {H : Hp} (s : SimH X.K X.mg γ ι H h) {q : Addr} {vs : List V} (hq : H q = none) :
    SimH X.K X.mg (q :: γ) ι (upd H q (.lst vs)) h ∧ Ext ι H ι (upd H q (.lst vs)) ∧ Grow γ ι H (q :: γ) ι (upd H q (.lst vs)) := by
  obtain ⟨s2, e2⟩ := s.lay (w := .lst vs) hq
  have g : Grow γ ι H (q :: γ) ι (L2.upd H q (.lst vs)) := ⟨List.prefix_refl _, fun p ws e => by rw [upd_ne (ne_of_none e hq)]; exact e, fun p o e n g => ⟨n, fun z => (List.mem_cons.mp z).elim (fun z => by rw [z, hq] at e; cases e) g, by rw [upd_ne (ne_of_none e hq)]; exact e⟩⟩
  refine ⟨⟨s2.1, s2.2.1, fun m u b e eb => ?_, fun d hd => ?_⟩, e2, g⟩
  · obtain ⟨w', hw, cw⟩ := s.2.2.1 m u b e eb
    exact ⟨w', by rw [upd_ne (ne_of_none hw hq)]; exact hw, cw.mono g⟩
  · rcases List.mem_cons.mp hd with z | z
    · subst z; exact ⟨s.not_in hq, vs, upd_same⟩
    · exact s2.2.2.2 d z
theorem SimH.layL {h : MH} {γ ι : List Addr} {H : Hp} (s : SimH X.K X.mg γ ι H h) {q : Addr} {xs : List MV} {vs : List V} (hq : H q = none) (r : VRs X.K X.mg γ ι H xs vs) :
    Ext ι H ι (upd H q (.lst vs)) ∧ rL X γ H ι (upd H q (.lst vs)) h xs (.ref q) := by
  obtain ⟨s2, e2, g2⟩ := s.layG (vs := vs) hq
  exact ⟨e2, q, vs, rfl, s2, upd_same, hq, r.mono g2⟩
theorem ml_lst {es : List Expr} {pos} {m : MLx} (ha : MA X W es m) : MLs X W (.List es pos) (mLst m) := by
  refine peW (pe_lst ha) fun σ H Q ⟨γ, ι, l, h, s, lr, p⟩ => ⟨γ, ι, l, h, s, lr, p.seq fun ι1 x h1 b H1 e1 ⟨s1, r1⟩ p1 => ?_⟩
  split at p1
  · rename_i hz
    refine ⟨line_le (by rw [← r1.length]; exact hz), fun q hq => ?_⟩
    obtain ⟨e2, r2⟩ := s1.layL hq r1
    exact p1.okE e2 r2
  · exact p1.elim
/-- nothing hidden any more -/
theorem SimH.show_ {h : MH} {γ ι : List Addr} {H : Hp} {a : Addr} (s : SimH X.K X.mg (a :: γ) ι H h) : SimH X.K X.mg γ ι H h ∧ Grow (a :: γ) ι H γ ι H := by
  have g : Grow (a :: γ) ι H γ ι H := ⟨List.prefix_refl _, fun _ _ e => e, fun p o e n g => ⟨n, fun z => g (List.mem_cons_of_mem _ z), e⟩⟩
  refine ⟨⟨s.1, s.2.1, fun m u b e eb => ?_, fun d hd => s.2.2.2 d (List.mem_cons_of_mem _ hd)⟩, g⟩
  obtain ⟨w', hw, cw⟩ := s.2.2.1 m u b e eb
  exact ⟨w', hw, cw.mono g⟩
/-- a fresh list as a value that nobody changes -/
def mFl (a : MLx) : MEx := fun l h => (a l h).bind fun xs h1 => .ok (.fl xs) h1
theorem rL.fl {γ : List Addr} {H0 : Hp} {ι : List Addr} {H : Hp} {h : MH} {xs : List MV} {v : V} (s0 : ∀ a, a ∈ γ → H0 a ≠ none) (r : rL X γ H0 ι H h xs v) : rV X γ H0 ι H h (.fl xs) v := by
  obtain ⟨a, vs, rfl, s, ha, h0, rs⟩ := r
  obtain ⟨s2, g⟩ := s.show_
  exact ⟨s2, .fl (.inl ha) (s.2.2.2 a List.mem_cons_self).1 (fun z => s0 a z h0) (rs.mono g)⟩
theorem SimH.g_some {h : MH} {γ ι : List Addr} {H : Hp} (s : SimH X.K X.mg γ ι H h) : ∀ a, a ∈ γ → H a ≠ none := fun a ha => by
  obtain ⟨_, vs, e⟩ := s.2.2.2 a ha
  rw [e]; exact fun z => by cases z
theorem me_fl {e : Expr} {m : MLx} (hm : MLs X W e m) : ME X W e (mFl m) :=
  peW hm fun σ H Q ⟨γ, ι, l, h, s, lr, p⟩ => ⟨γ, ι, l, h, s, lr, p.seq fun ι1 x h1 b H1 e1 r1 p1 => p1.ok ⟨(rL.fl s.g_some r1).1, (rL.fl s.g_some r1).2⟩⟩
/-- a fresh list becomes a cell -/
def mAl (a : MLx) : MEx := fun l h => (a l h).bind fun xs h1 => .ok (.ref h1.length) (h1 ++ [.lst xs])
theorem SimH.adopt {h : MH} {γ ι : List Addr} {H : Hp} {p : Addr} (s : SimH X.K X.mg (p :: γ) ι H h) (hng : p ∉ γ) {o : MO} {vs : List V} (hp : H p = some (.lst vs)) (c : CR X.K X.mg (p :: γ) ι H p o (.lst vs)) : SimH X.K X.mg γ (ι ++ [p]) H (h ++ [o]) ∧ (ι ++ [p])[h.length]? = some p := by
  have hn : p ∉ ι := (s.2.2.2 p List.mem_cons_self).1
  have g : Grow (p :: γ) ι H γ (ι ++ [p]) H := ⟨List.prefix_append _ _, fun q vs e => e, fun q o e n g => ⟨fun z => (List.mem_append.mp z).elim n (fun z => by simp at z; subst z; exact g List.mem_cons_self), fun z => g (List.mem_cons_of_mem _ z), e⟩⟩
  have last : (ι ++ [p])[h.length]? = some p := by rw [← s.1, List.getElem?_append_right (Nat.le_refl _)]; simp
  refine ⟨⟨by simp [s.1], ?_, fun m u b e eb => ?_, fun d hd => ?_⟩, last⟩
  · rw [List.nodup_append]
    exact ⟨s.2.1, by simp, fun x hx y hy z => by simp at hy; subst hy; subst z; exact hn hx⟩
  · by_cases hm : m < h.length
    · rw [List.getElem?_append_left hm] at e
      rw [List.getElem?_append_left (by rw [s.1]; exact hm)] at eb
      obtain ⟨w', hw, cw⟩ := s.2.2.1 m u b e eb
      exact ⟨w', hw, cw.mono g⟩
    · have hmm : m = h.length := by
        have := (List.getElem?_eq_some_iff.mp e).1
        simp at this; omega
      subst hmm
      rw [last] at eb; cases eb
      rw [List.getElem?_append_right (Nat.le_refl _)] at e
      simp at e; subst e
      exact ⟨_, hp, c.mono g⟩
  · obtain ⟨n1, ws, e⟩ := s.2.2.2 d (List.mem_cons_of_mem _ hd)
    exact ⟨fun z => (List.mem_append.mp z).elim n1 (fun z => by simp at z; subst z; exact hng hd), ws, e⟩
end
end ML

set_option maxRecDepth 100000
/-! ML2: cells of fresh lists, defs and their calls, statements. -/
namespace ML
open PySem PySem.Spec PyProof.Rows L2

section
variable {X : Cx} {W : WX}
theorem al_tm {m : MLx} {σ : L2.St} {H : Hp} {Q : VK} (h0 : TM X W (rV X) (mAl m) σ H Q) : TM X W (rL X) m σ H Q := by
  obtain ⟨γ, ι, l, h, s, lr, p⟩ := h0
  refine ⟨γ, ι, l, h, s, lr, ?_⟩
  have p : Post X W (rV X) γ σ ((m l h).bind fun xs h1 => .ok (.ref h1.length) (h1 ++ [.lst xs])) ι H Q := p
  cases e : m l h with
  | ok xs h1 =>
    rw [e] at p
    rintro ι1 V H1 e1 ⟨a, vs, rfl, s1, h2, h4, h5⟩
    obtain ⟨s2, la⟩ := s1.adopt (s.not_g h4) h2 (.lst h5)
    refine p (ι1 ++ [a]) (.ref a) H1 ⟨e1.pre.trans (List.prefix_append _ _), e1.keep, fun b hb nb => ?_, e1.frz⟩ ⟨s2, .ref la⟩
    rcases List.mem_append.mp hb with z | z
    · exact e1.fresh b z nb
    · simp at z; subst z; exact h4
  | exn c fs h1 => rw [e] at p; exact p
  | stuck => rw [e] at p; exact p

theorem me_al {e : Expr} {m : MLx} (hm : MLs X W e m) : ME X W e (mAl m) := peW hm fun σ H Q h => al_tm h

/-! ### defs -/
/-- a def's promise: what the mini function says -/
def spM (K : PySem.W.Frag) (mg : Str → Option Value) (n : Nat) (mf : List MV → MH → MR MV) : Sp := fun vs H Q E => ∃ γ ι h xs, SimH K mg γ ι H h ∧ VRs K mg γ ι H xs vs ∧ xs.length = n ∧ match mf xs h with
  | .ok v h' => ∀ ι' b H', Ext ι H ι' H' → SimH K mg γ ι' H' h' → VR K mg γ ι' H' v b → Q b H'
  | .exn c fs h' => ∀ ι' cls d H', Ext ι H ι' H' → SimH K mg γ ι' H' h' → XR K mg γ ι' H' c fs cls d → E cls d H'
  | .stuck => False
structure FnM (P : Program) (w : World) (K : PySem.W.Frag) (mg : Str → Option Value) (base : Heap) (x : Str) (n k : Nat) (mf : List MV → MH → MR MV) : Prop where
  ex : ∃ (f : Addr) (fd : FuncData) (ps : List Str), mg x = some (.ref f) ∧ PySem.W.keepIn K (.ref f) = true ∧ Binds K fd ps [] ∧ FnOk P w K mg base (L2.CX P w) k f fd ps (spM K mg n mf)
theorem FnM.mono {P w K mg base x n j k mf} (F : FnM P w K mg base x n j mf) (h : j ≤ k) : FnM P w K mg base x n k mf := by
  obtain ⟨f, fd, ps, a, b, c, d⟩ := F.ex
  exact ⟨f, fd, ps, a, b, c, d.mono h⟩
variable {k : Nat} {f : Addr} {fd : FuncData} {ps : List Str} {sp : Sp} {x : Str} {p pos : Pos} {e : Expr} {es : List Expr} {ta : TA}
theorem run_fnW {pins : List (Addr × Obj)} {σ : L2.St} {H : Hp} {s : Shared} {Q : VK} {us : List Value} {vs : List V} (F : FnOk X.prog X.w X.K X.mg X.base (L2.CX X.prog X.w) k f fd ps sp) (hr : Room k X.A) (hb : Binds X.K fd ps []) (tk : Takes X W)
    (I : Inv X pins σ H s) (r : Vals vs us) (h : sp vs H Q fun cls d H' => W cls d σ H') : wpAny (model X.prog X.w) X.A (call (.ref f) us) (EP X pins σ Q) X.xe s := by
  have hl : (us ++ []).length = ps.length := by rw [List.append_nil, ← r.length]; exact F.len _ _ _ _ h
  refine wpAny_call (codeAny_mono (F.run X.A X.stack s H ⟨us, []⟩ (us ++ []) vs Q _ hr I.env0 (hb s us I.kIn hl) (by rw [List.append_nil]; exact r) h) fun r s' hq => ?_)
  cases r with
  | error e => exact tk e s' (XE.of_call I (fun cls d H' z => z) hq)
  | ok fl =>
    cases fl with
    | ret u => exact I.after hq
    | next => exact False.elim hq
    | brk => exact False.elim hq
    | cont => exact False.elim hq
theorem pe_callW (F : FnOk X.prog X.w X.K X.mg X.base (L2.CX X.prog X.w) k f fd ps sp) (hr : Room k X.A) (hg : Gl X x) (hm : X.mg x = some (.ref f)) (hk : PySem.W.keepIn X.K (.ref f) = true) (hb : Binds X.K fd ps []) (tk : Takes X W)
    (ha : PA X (e :: es) ta) (hdb : (x == ("__debug__" : Str)) = false) (he : starEach (e :: es) X.env = (false, eval e X.env) :: starEach es X.env) (hpl : (backTo pos (starEach es X.env)).any (·.1) = false) :
    PE X (.Call (.Name x p) (e :: es) [] pos) (fun σ H Q => ta σ H fun vs H1 => sp vs H1 Q fun cls d H' => W cls d σ H') := by
  refine ⟨fun pins s σ H Q I h => ?_⟩
  refine wpAny_Call_Name_kw (ld_glob I hg hm ?_ hdb)
  refine PySem.W.callWith_K (h₀ := X.base) I.ok.mod.kin hk (thn (ha.run pos pins s σ H _ I h) fun us s1 ⟨vs, H1, I1, r, q⟩ => ⟨I1.kIn, ?_⟩) he hpl
  exact run_fnW F hr hb tk I1 r q
theorem pe_callW0 (F : FnOk X.prog X.w X.K X.mg X.base (L2.CX X.prog X.w) k f fd ps sp) (hr : Room k X.A) (hg : Gl X x) (hm : X.mg x = some (.ref f)) (hk : PySem.W.keepIn X.K (.ref f) = true) (hb : Binds X.K fd ps []) (tk : Takes X W)
    (hdb : (x == ("__debug__" : Str)) = false) : PE X (.Call (.Name x p) [] [] pos) (fun σ H Q => sp [] H Q fun cls d H' => W cls d σ H') := by
  refine ⟨fun pins s σ H Q I h => ?_⟩
  refine wpAny_Call_Name_kw (ld_glob I hg hm ?_ hdb)
  exact PySem.W.callWith_K0 I.kIn hk (run_fnW (us := []) F hr hb tk I .nil h)
def mCall (n : Nat) (mf : List MV → MH → MR MV) (a : MLx) : MEx := fun l h => (a l h).bind fun xs h1 => if xs.length = n then mf xs h1 else .stuck
theorem spM_of {n : Nat} {mf : List MV → MH → MR MV} {γ : List Addr} {σ : L2.St} {ι : List Addr} {H : Hp} {h : MH} {xs : List MV} {vs : List V} {Q : VK} (s : SimH X.K X.mg γ ι H h) (r : VRs X.K X.mg γ ι H xs vs)
    (p : Post X W (rV X) γ σ (if xs.length = n then mf xs h else .stuck) ι H Q) : spM X.K X.mg n mf vs H Q fun cls d H' => W cls d σ H' := by
  split at p
  · rename_i hl
    refine ⟨γ, ι, h, xs, s, r, hl, ?_⟩
    unfold Post at p
    generalize mf xs h = z at p ⊢
    cases z with
    | ok v h' => exact fun ι' b H' e s r => p ι' b H' e ⟨s, r⟩
    | exn c fs h' => exact p
    | stuck => exact p
  · exact p.elim
theorem me_call {n : Nat} {mf : List MV → MH → MR MV} {m : MLx} (F : FnM X.prog X.w X.K X.mg X.base x n k mf) (hr : Room k X.A) (tk : Takes X W) (ha : MA X W (e :: es) m) (hg : Gl X x := by rfl)
    (hdb : (x == ("__debug__" : Str)) = false := by decide) (he : starEach (e :: es) X.env = (false, eval e X.env) :: starEach es X.env := by rfl) (hpl : (backTo pos (starEach es X.env)).any (·.1) = false := by rfl) :
    ME X W (.Call (.Name x p) (e :: es) [] pos) (mCall n mf m) := by
  obtain ⟨f, fd, ps, hm, hk, hb, F⟩ := F.ex
  refine peW (pe_callW F hr hg hm hk hb tk ha hdb he hpl) fun σ H Q ⟨γ, ι, l, h, s, lr, p⟩ => ⟨γ, ι, l, h, s, lr, p.seq fun ι1 x h1 b H1 e1 ⟨s1, r1⟩ p1 => ?_⟩
  exact spM_of s1 r1 p1
theorem me_call0 {mf : List MV → MH → MR MV} (F : FnM X.prog X.w X.K X.mg X.base x 0 k mf) (hr : Room k X.A) (tk : Takes X W) (hg : Gl X x := by rfl)
    (hdb : (x == ("__debug__" : Str)) = false := by decide) : ME X W (.Call (.Name x p) [] [] pos) (mCall 0 mf maNil) := by
  obtain ⟨f, fd, ps, hm, hk, hb, F⟩ := F.ex
  exact peW (pe_callW0 F hr hg hm hk hb tk hdb) fun σ H Q ⟨γ, ι, l, h, s, lr, p⟩ => spM_of s .nil p
/-! a def's body -/
def mRun (N n : Nat) (body : MSt) : List MV → MH → MR MV := fun xs h => match body (xs.map some ++ List.replicate (N - n) none) h with
  | .nx _ h' => .ok .non h'
  | .rt v h' => .ok v h'
  | .exn c fs _ h' => .exn c fs h'
  | _ => .stuck
mutual
/-- no reference from n on -/
def refsLt (n : Nat) : MV → Bool
  | .ref m => decide (m < n)
  | .tup xs => refsLts n xs
  | .fl xs => refsLts n xs
  | _ => true
def refsLts (n : Nat) : List MV → Bool
  | [] => true
  | x :: xs => refsLt n x && refsLts n xs
end
def cellLt (n : Nat) : MO → Bool
  | .lst xs => refsLts n xs
  | .dK kvs => refsLts n (kvs.map (·.2))
  | .dT kvs => refsLts n (kvs.map (·.2))
  | .dN kvs => refsLts n (kvs.map (·.2))
  | .ins _ fs => refsLts n (fs.map (·.2))
  | .exc _ fs => refsLts n (fs.map (·.2))
  | .frz o => cellLt n o
/-- what stands in h is not led into what came behind -/
def DropOk (h h' : MH) (vs : List MV) : Prop := refsLts h.length vs = true ∧ h.length ≤ h'.length ∧ ∀ i o, i < h.length → h'[i]? = some o → h[i]? = some o ∨ cellLt h.length o = true
/-- a new list that is handed out is changed by nobody any more -/
def thaw (n : Nat) (h' : MH) (v : MV) : MV := match v with
  | .ref m => if m < n then .ref m else match h'[m]? with
    | some (.lst xs) => .fl xs
    | _ => .ref m
  | v => v
theorem thaw_id {n : Nat} {h' : MH} {v : MV} (hv : refsLt n v = true) : thaw n h' v = v := by
  unfold thaw
  split
  · rename_i m
    rw [if_pos (of_decide_eq_true hv)]
  · rfl
open Classical in
/-- what was made within and led out by nothing is forgotten -/
noncomputable def mDrop (mf : List MV → MH → MR MV) : List MV → MH → MR MV := fun xs h => match mf xs h with
  | .ok v h' => if DropOk h h' [thaw h.length h' v] then .ok (thaw h.length h' v) (h'.take h.length) else .stuck
  | .exn c fs h' => if DropOk h h' (fs.map (·.2)) then .exn c fs (h'.take h.length) else .stuck
  | .stuck => .stuck
section
variable {K : PySem.W.Frag} {mg : Str → Option Value} {γ γ' ι ι' : List Addr} {H H' : Hp}
mutual
theorem VR.lt : ∀ {x v}, VR K mg γ ι H x v → refsLt ι.length x = true
  | _, _, .non => rfl
  | _, _, .bl b => rfl
  | _, _, .int i => rfl
  | _, _, .str x => rfl
  | _, _, .tup h r => VRs.lt r
  | _, _, .fl _ _ _ r => VRs.lt r
  | _, _, .flK _ r => VRs.lt r
  | _, _, .ref e => decide_eq_true (List.getElem?_eq_some_iff.mp e).1
  | _, _, .glo e => rfl
theorem VRs.lt : ∀ {x v}, VRs K mg γ ι H x v → refsLts ι.length x = true
  | _, _, .nil => rfl
  | _, _, .cons a b => by
    show (refsLt _ _ && refsLts _ _) = true
    rw [VR.lt a, VRs.lt b]; rfl
end
mutual
/-- back to the shorter ι -/
theorem VR.back (g : ι <+: ι') : ∀ {x v}, VR K mg γ ι' H x v → refsLt ι.length x = true → VR K mg γ ι H x v
  | _, _, .non, _ => .non
  | _, _, .bl b, _ => .bl b
  | _, _, .int i, _ => .int i
  | _, _, .str x, _ => .str x
  | _, _, .tup h r, q => .tup h (VRs.back g r q)
  | _, _, .fl h n n2 r, q => .fl h (fun z => n (g.subset z)) n2 (VRs.back g r q)
  | _, _, .flK h r, q => .flK h (VRs.back g r q)
  | _, _, .ref e, q => .ref (by
      obtain ⟨t, rfl⟩ := g
      have := of_decide_eq_true q
      rw [List.getElem?_append_left this] at e; exact e)
  | _, _, .glo e, _ => .glo e
theorem VRs.back (g : ι <+: ι') : ∀ {x v}, VRs K mg γ ι' H x v → refsLts ι.length x = true → VRs K mg γ ι H x v
  | _, _, .nil, _ => .nil
  | _, _, .cons (x := x) (xs := xs) a b, q => by
    have q' : (refsLt ι.length x && refsLts ι.length xs) = true := q
    rw [Bool.and_eq_true] at q'
    exact .cons (VR.back g a q'.1) (VRs.back g b q'.2)
end
theorem FR.lt {κ : Type} {x : List (κ × MV)} {v : List (κ × V)} (h : FR K mg γ ι H x v) : refsLts ι.length (x.map (·.2)) = true := by
  induction h with
  | nil => rfl
  | cons a b ih => show (refsLt _ _ && refsLts _ _) = true; rw [a.lt, ih]; rfl
theorem FR.back (g : ι <+: ι') {κ : Type} {x : List (κ × MV)} {v : List (κ × V)} (h : FR K mg γ ι' H x v) : refsLts ι.length (x.map (·.2)) = true → FR K mg γ ι H x v := by
  induction h with
  | nil => exact fun _ => .nil
  | @cons k x v xs vs a b ih =>
    intro q
    have q' : (refsLt ι.length x && refsLts ι.length (xs.map (·.2))) = true := q
    rw [Bool.and_eq_true] at q'
    exact .cons (VR.back g a q'.1) (ih q'.2)
mutual
theorem refsLt_mvOf (n : Nat) : ∀ k : NestedKey, refsLt n (mvOf k) = true
  | .none => rfl
  | .num _ => rfl
  | .text _ => rfl
  | .tup ks => by unfold mvOf refsLt; exact refsLts_mvsOf n ks
theorem refsLts_mvsOf (n : Nat) : ∀ ks : List NestedKey, refsLts n (mvsOf ks) = true
  | [] => rfl
  | k :: ks => by unfold mvsOf refsLts; rw [refsLt_mvOf n k, refsLts_mvsOf n ks]; rfl
end
theorem NR.lt {x v} (h : NR K mg γ ι H x v) : refsLts ι.length (x.map (·.2)) = true := by
  induction h with
  | nil => rfl
  | cons a b c d e ih =>
    show (refsLt _ _ && refsLts _ _) = true
    rw [c.lt, ih]; rfl
theorem NR.back (g : ι <+: ι') {x v} (h : NR K mg γ ι' H x v) : refsLts ι.length (x.map (·.2)) = true → NR K mg γ ι H x v := by
  induction h with
  | nil => exact fun _ => .nil
  | @cons y v u k p kvs xs a b c d e ih =>
    intro q
    have q' : (refsLt ι.length y && refsLts ι.length (kvs.map (·.2))) = true := q
    simp only [Bool.and_eq_true] at q'
    exact .cons a (VR.back g b (refsLt_mvOf _ _)) (VR.back g c q'.1) d (ih q'.2)
theorem CR.lt {a o w} (h : CR K mg γ ι H a o w) : cellLt ι.length o = true := by
  induction h with
  | lst r => exact r.lt
  | dK r => exact r.lt
  | dT r => exact r.lt
  | dN r => exact r.lt
  | exc0 e => rfl
  | exc1 e h1 h2 h3 r => exact r.lt
  | ins e r => exact r.lt
  | frz c ih => exact ih
theorem CR.back (g : ι <+: ι') {a o w} (h : CR K mg γ ι' H a o w) : cellLt ι.length o = true → CR K mg γ ι H a o w := by
  induction h with
  | lst r => exact fun q => .lst (r.back g q)
  | dK r => exact fun q => .dK (r.back g q)
  | dT r => exact fun q => .dT (r.back g q)
  | dN r => exact fun q => .dN (r.back g q)
  | exc0 e => exact fun q => .exc0 e
  | exc1 e h1 h2 h3 r => exact fun q => .exc1 e h1 (fun z => h2 (g.subset z)) h3 (r.back g q)
  | ins e r => exact fun q => .ins e (r.back g q)
  | frz c ih => exact fun q => .frz (ih q)
theorem SimH.drop {h h' : MH} {vs : List MV} (s0 : SimH K mg γ ι H h) (e : Ext ι H ι' H') (s : SimH K mg γ ι' H' h') (d : DropOk h h' vs) : SimH K mg γ ι H' (h'.take h.length) ∧ Ext ι H ι H' := by
  obtain ⟨_, d2, d3⟩ := d
  refine ⟨⟨by rw [List.length_take, s0.1]; omega, s0.2.1, fun n o a en ea => ?_, fun d hd => ⟨(s0.2.2.2 d hd).1, (s.2.2.2 d hd).2⟩⟩, List.prefix_refl _, e.keep, fun b hb nb => absurd hb nb, e.frz⟩
  have hn : n < h.length := s0.lt ea
  rw [List.getElem?_take_of_lt hn] at en
  have ea' : ι'[n]? = some a := (e.grow s0).get ea
  obtain ⟨w, hw, c⟩ := s.2.2.1 n o a en ea'
  refine ⟨w, hw, c.back e.pre ?_⟩
  rcases d3 n o hn en with z | z
  · obtain ⟨w0, _, c0⟩ := s0.2.2.1 n o a z ea
    exact c0.lt
  · rw [s0.1]; exact z
end
theorem spM_dropped {K : PySem.W.Frag} {mg : Str → Option Value} {n : Nat} {mf : List MV → MH → MR MV} {vs : List V} {H : Hp} {Q : VK} {E : XK} (q : spM K mg n (mDrop mf) vs H Q E) : spM K mg n mf vs H Q E := by
  obtain ⟨γ, ι, h, xs, s, r, hl, q⟩ := q
  refine ⟨γ, ι, h, xs, s, r, hl, ?_⟩
  unfold mDrop at q
  cases e : mf xs h with
  | ok v h' =>
    rw [e] at q
    dsimp only at q ⊢
    intro ι' B H' e1 s1 r1
    by_cases dk : DropOk h h' [thaw h.length h' v]
    · rw [if_pos dk] at q
      obtain ⟨s2, e2⟩ := s.drop e1 s1 dk
      have hv : refsLt ι.length (thaw h.length h' v) = true := by
        have := dk.1
        rw [s.1]
        simpa [refsLts] using this
      refine q ι B H' e2 s2 ?_
      cases r1 with
      | @ref m a ea =>
        by_cases hm : m < h.length
        · have e : thaw h.length h' (.ref m) = .ref m := by unfold thaw; dsimp only; rw [if_pos hm]
          rw [e]
          exact VR.back e1.pre (.ref ea) (decide_eq_true (by rw [s.1]; exact hm))
        · have e : thaw h.length h' (.ref m) = match h'[m]? with
              | some (.lst xs) => .fl xs
              | _ => .ref m := by unfold thaw; dsimp only; rw [if_neg hm]
          rw [e] at hv ⊢
          split at hv
          · rename_i ys hy
            obtain ⟨w, hw, c⟩ := s1.cell hy ea
            cases c with
            | lst r =>
              refine .fl (.inl hw) (fun z => ?_) (fun z => (s1.2.2.2 a z).1 (List.mem_of_getElem? ea)) (VRs.back e1.pre r (by simpa [refsLt] using hv))
              obtain ⟨k, hk, ek⟩ := List.getElem_of_mem z
              obtain ⟨t, rfl⟩ := e1.pre
              have h1 : (ι ++ t)[k]? = some a := by rw [List.getElem?_append_left hk, List.getElem?_eq_getElem hk, ek]
              obtain ⟨q1, q2⟩ := List.getElem?_eq_some_iff.mp ea
              obtain ⟨q3, q4⟩ := List.getElem?_eq_some_iff.mp h1
              have := (List.getElem_inj s1.2.1).mp (q2.trans q4.symm)
              rw [← s.1] at hm; omega
          · have := of_decide_eq_true hv
            rw [s.1] at this; exact absurd this hm
      | non => exact .non
      | bl b => exact .bl b
      | int b => exact .int b
      | str b => exact .str b
      | glo b => exact .glo b
      | tup h1 h2 => exact VR.back e1.pre (.tup h1 h2) hv
      | fl h1 h2 h3 h4 => exact VR.back e1.pre (.fl h1 h2 h3 h4) hv
      | flK h1 h4 => exact VR.back e1.pre (.flK h1 h4) hv
    · rw [if_neg dk] at q; exact q.elim
  | exn cn fs h' =>
    rw [e] at q
    dsimp only at q ⊢
    intro ι' cls D H' e1 s1 r1
    by_cases dk : DropOk h h' (fs.map (·.2))
    · rw [if_pos dk] at q
      obtain ⟨s2, e2⟩ := s.drop e1 s1 dk
      refine q ι cls D H' e2 s2 ?_
      have hd := dk.1
      rw [← s.1] at hd
      cases r1 with
      | bare g => exact .bare g
      | flds g h1 h2 h3 => exact .flds g h1 (fun z => h2 (e1.pre.subset z)) (h3.back e1.pre hd)
    · rw [if_neg dk] at q; exact q.elim
  | stuck => rw [e] at q; exact q.elim

/-- the function object at hand -/
structure FnH (P : Program) (w : World) (K : PySem.W.Frag) (mg : Str → Option Value) (base : Heap) (x : Str) (n k : Nat) (mf : List MV → MH → MR MV) (f : Addr) (fd : FuncData) (ps : List Str) : Prop where
  hm : mg x = some (.ref f)
  kp : PySem.W.keepIn K (.ref f) = true
  bi : Binds K fd ps []
  ok : FnOk P w K mg base (L2.CX P w) k f fd ps (spM K mg n mf)
theorem FnH.M {P w K mg base x n k mf f fd ps} (F : FnH P w K mg base x n k mf f fd ps) : FnM P w K mg base x n k mf := ⟨f, fd, ps, F.hm, F.kp, F.bi, F.ok⟩
theorem FnH.dropped {P w K mg base x n k mf f fd ps} (F : FnH P w K mg base x n k mf f fd ps) : FnH P w K mg base x n k (mDrop mf) f fd ps := ⟨F.hm, F.kp, F.bi, F.ok.imp fun _ _ _ _ q => spM_dropped q⟩
theorem FnM.dropped {P w K mg base x n mf} (F : FnM P w K mg base x n k mf) : FnM P w K mg base x n k (mDrop mf) := by
  obtain ⟨f, fd, ps, a, b, c, d⟩ := F.ex
  exact ⟨f, fd, ps, a, b, c, d.imp fun _ _ _ _ q => spM_dropped q⟩

/-- a def of the text keeps its mini function's promise -/
theorem fnH_of {P : Program} {w : World} {K : PySem.W.Frag} {mg : Str → Option Value} {base : Heap} {x y qual : Str} {st : Stmt} {f : Addr} {fd : FuncData} {N ps : List Str} {k : Nat} {body : MSt}
    (oc : ∃ (oc : Value) (od : Option Addr) (kV doc pm : Value) (an : Option Addr) (cdv ct : Value) (osl : Array (Option Value)) (nm : Str) (pr : Arguments) (bd : List Stmt) (sc : Scope) (dV : Value),
      fd = PySem.W.fnOf nm qual pr bd sc dV kV doc pm an cdv ct ∧ K.lookup f = some ⟨oc, od, .func fd, osl⟩ ∧ PySem.W.codeIn K cdv qual = true ∧ FnScope N ps sc ∧ Binds K fd ps [] ∧
      ∀ (A : Around) (outer : List Env) (s : Shared) (H : Hp) (E : XK), Room k (A.deeper (envOfC qual sc s.heap.objs.size f cdv)) →
        MSs (cxOf (L2.CX P w) P w K mg base N qual sc f cdv A outer s H E) (fun cls d _ H' => E cls d H') bd body)
    (hm : mg x = some (.ref f)) (kp : PySem.W.keepIn K (.ref f) = true) : FnH P w K mg base x ps.length (k + 1) (mRun N.length ps.length body) f fd ps := by
  obtain ⟨oc, od, kV, doc, pm, an, cdv, ct, osl, nm, pr, bd, sc, dV, rfl, lk, hcd, S, hb, hbody⟩ := oc
  refine ⟨hm, kp, hb, fn_of lk hcd S (fun vs H Q E ⟨γ, ι, h, xs, s, r, hl, q⟩ => by rw [← r.length, hl]) fun A outer s H vs Q E hr ⟨γ, ι, h, xs, s0, r, hl, q⟩ => ⟨_, hbody A outer s H E hr, ?_⟩⟩
  have hpl : ps.length ≤ N.length := by have := congrArg List.length S.pre; rw [List.length_take] at this; omega
  refine ⟨γ, ι, xs.map some ++ List.replicate (N.length - ps.length) none, h, s0, ?_, ?_⟩
  · show LR K mg γ ι H _ (L2.start N vs)
    unfold L2.start
    have e : N.length - vs.length = N.length - ps.length := by rw [← r.length, hl]
    rw [e]
    exact LR.start r _
  · unfold mRun at q
    generalize body (xs.map some ++ List.replicate (N.length - ps.length) none) h = z at q ⊢
    cases z with
    | nx l h' => exact fun ι' σ' H' e1 s1 _ => q ι' .non H' e1 s1 .non
    | rt v h' => exact q
    | bk l h' => exact q.elim
    | ct l h' => exact q.elim
    | exn c fs l h' => exact fun ι' σ' cls d H' e1 s1 _ r1 => q ι' cls d H' e1 s1 r1
    | stuck => exact q.elim
end

/-! ### statements -/
def mSeq (a b : MSt) : MSt := fun l h => (a l h).bind b
def mNil : MSt := fun l h => .nx l h
def mSet (i : Nat) (e : MEx) : MSt := fun l h => (e l h).toS l fun v h1 => .nx (l.set i (some v)) h1
def mExpr (e : MEx) : MSt := fun l h => (e l h).toS l fun _ h1 => .nx l h1
def mRet (e : MEx) : MSt := fun l h => (e l h).toS l fun v h1 => .rt v h1
def mRetN : MSt := fun l h => .rt .non h
def mIfS (c : MBx) (a b : MSt) : MSt := fun l h => (c l h).toS l fun k h1 => if k then a l h1 else b l h1
def mBrk : MSt := fun l h => .bk l h
def mCnt : MSt := fun l h => .ct l h
section
variable {X : Cx} {W : WX} {pos : Pos}
theorem mss_nil : MSs X W [] mNil := pssW pss_nil fun D σ H ⟨γ, ι, l, h, s, lr, p⟩ => p ι σ H (.refl _ _) s lr
theorem mss_cons {st : Stmt} {rest : List Stmt} {a b : MSt} (h1 : MSj X W st a) (h2 : MSs X W rest b) : MSs X W (st :: rest) (mSeq a b) :=
  pssW (pss_cons h1 h2) fun D σ H ⟨γ, ι, l, h, s, lr, p⟩ => ⟨γ, ι, l, h, s, lr, PostS.seq p⟩
theorem mss_one {st : Stmt} {a : MSt} (h1 : MSj X W st a) : MSs X W [st] a := pss_one h1
theorem ms_pass : MSj X W (.Pass pos) mNil := psW ps_pass fun D σ H ⟨γ, ι, l, h, s, lr, p⟩ => p ι σ H (.refl _ _) s lr
theorem ms_break : MSj X W (.Break pos) mBrk := psW ps_break fun D σ H ⟨γ, ι, l, h, s, lr, p⟩ => p ι σ H (.refl _ _) s lr
theorem ms_cont : MSj X W (.Continue pos) mCnt := psW ps_continue fun D σ H ⟨γ, ι, l, h, s, lr, p⟩ => p ι σ H (.refl _ _) s lr
theorem ms_set {i : Nat} {x : Str} {e : Expr} {m : MEx} {pos' : Pos} (hN : X.N.Nodup) (he : ME X W e m) (hi : X.N[i]? = some x := by rfl) (hx : L2.Loc X.env.scope x := by first | exact Or.inl rfl | exact Or.inr rfl) (hs : swapsWith e (some (.Name x pos')) pos.line X.env = pure false := by rfl)
    (hf : X.fn x = true ∨ X.env.scope.names.lookup x = some .local := by first | exact .inl rfl | exact .inr rfl) : MSj X W (.Assign [.Name x pos'] e pos) (mSet i m) :=
  psW (ps_set hN hi hx he hs hf) fun D σ H ⟨γ, ι, l, h, s, lr, p⟩ => ⟨γ, ι, l, h, s, lr, PostS.run (rel := rV X) s lr p fun ι1 v h1 b H1 e1 lr1 ⟨s1, r1⟩ p1 => p1 ι1 _ H1 (.refl _ _) s1 (lr1.set r1 i)⟩
theorem ms_expr {e : Expr} {m : MEx} (he : ME X W e m) (hs : swapsWith e none pos.line X.env = pure false := by rfl) : MSj X W (.Expr e pos) (mExpr m) :=
  psW (ps_expr he hs) fun D σ H ⟨γ, ι, l, h, s, lr, p⟩ => ⟨γ, ι, l, h, s, lr, PostS.run (rel := rV X) s lr p fun ι1 v h1 b H1 e1 lr1 ⟨s1, r1⟩ p1 => p1 ι1 _ H1 (.refl _ _) s1 lr1⟩
theorem ms_ret {e : Expr} {m : MEx} (he : ME X W e m) : MSj X W (.Return (some e) pos) (mRet m) :=
  psW (ps_ret he) fun D σ H ⟨γ, ι, l, h, s, lr, p⟩ => ⟨γ, ι, l, h, s, lr, PostS.run (rel := rV X) s lr p fun ι1 v h1 b H1 e1 lr1 ⟨s1, r1⟩ p1 => p1 ι1 _ H1 (.refl _ _) s1 r1⟩
theorem ms_retN : MSj X W (.Return none pos) mRetN := psW ps_retN fun D σ H ⟨γ, ι, l, h, s, lr, p⟩ => p ι .non H (.refl _ _) s .non
theorem ms_if {c : Expr} {a b : List Stmt} {mc : MBx} {ma mb : MSt} (hc : MT X W c mc) (ha : MSs X W a ma) (hb : MSs X W b mb) : MSj X W (.If c a b pos) (mIfS mc ma mb) :=
  psW (ps_if hc ha hb) fun D σ H ⟨γ, ι, l, h, s, lr, p⟩ => ⟨γ, ι, l, h, s, lr, PostS.run (rel := rB X) s lr p fun ι1 v h1 b H1 e1 lr1 ⟨s1, r1⟩ p1 => by
    cases r1
    cases v with
    | true => exact ⟨γ, ι1, l, h1, s1, lr1, p1⟩
    | false => exact ⟨γ, ι1, l, h1, s1, lr1, p1⟩⟩
end
end ML

set_option maxRecDepth 100000
/-! ML3: targets, what is walked, for, while, comprehensions. -/
namespace ML
open PySem PySem.Spec PyProof.Rows L2

/-! ### targets -/
inductive Tg where
  | nm (i : Nat) | tp (is : List Nat)
def setAll : List Nat → List MV → Loc → Loc
  | i :: is, x :: xs, l => setAll is xs (l.set i (some x))
  | _, _, l => l
def Tg.set : Tg → MV → Loc → Option Loc
  | .nm i, v, l => some (l.set i (some v))
  | .tp is, .tup xs, l => if xs.length = is.length then some (setAll is xs l) else none
  | _, _, _ => none
@[simp] theorem Tg.set_nm (i v l) : (Tg.nm i).set v l = some (l.set i (some v)) := rfl
section
variable (X : Cx) (W : WX)
def MG (e : Expr) (t : Tg) : Prop := PG X e fun V σ H Q => ∃ γ ι l v l', LR X.K X.mg γ ι H l σ ∧ VR X.K X.mg γ ι H v V ∧ t.set v l = some l' ∧ ∀ σ', LR X.K X.mg γ ι H l' σ' → (∀ j, (∀ i, t = .nm i → j ≠ i) → (∀ is, t = .tp is → j ∉ is) → σ'[j]? = σ[j]?) → σ'.length = σ.length → Q σ' H
def MGs (es : List Expr) (is : List Nat) : Prop := PGs X es fun Vs σ H Q => ∃ γ ι l xs, LR X.K X.mg γ ι H l σ ∧ VRs X.K X.mg γ ι H xs Vs ∧ xs.length = is.length ∧ ∀ σ', LR X.K X.mg γ ι H (setAll is xs l) σ' → (∀ j, j ∉ is → σ'[j]? = σ[j]?) → σ'.length = σ.length → Q σ' H
end
theorem pgW {X : Cx} {e : Expr} {t t' : TG} (h : PG X e t) (w : ∀ V σ H Q, t' V σ H Q → t V σ H Q) : PG X e t' := ⟨fun pins s σ H v u Q I r q => h.run pins s σ H v u Q I r (w v σ H Q q)⟩
theorem pgsW {X : Cx} {e : List Expr} {t t' : TGs} (h : PGs X e t) (w : ∀ V σ H Q, t' V σ H Q → t V σ H Q) : PGs X e t' := ⟨fun pins s σ H v u Q I r q => h.run pins s σ H v u Q I r (w v σ H Q q)⟩
theorem piW {X : Cx} {tg e : Expr} {t t' : TI} (h : PI X tg e t) (w : ∀ σ H R, t' σ H R → t σ H R) : PI X tg e t' := ⟨fun pins s σ H R I q => h.run pins s σ H R I (w σ H R q)⟩
section
variable {X : Cx} {W : WX} {pos : Pos}
theorem mg_name {x : Str} (i : Nat) (hN : X.N.Nodup) (hi : X.N[i]? = some x := by rfl) (hx : L2.Loc X.env.scope x := by first | exact Or.inl rfl | exact Or.inr rfl) (hf : X.fn x = true ∨ X.env.scope.names.lookup x = some .local := by first | exact .inl rfl | exact .inr rfl) : MG X (.Name x pos) (.nm i) :=
  pgW (pg_name hN hi hx hf) fun V σ H Q ⟨γ, ι, l, v, l', lr, r, e, q⟩ => by
    cases e
    exact q _ (lr.set r i) (fun j h _ => List.getElem?_set_ne (fun z => h i rfl z.symm)) (by rw [List.length_set])
theorem mgs_nil : MGs X [] [] := pgsW pgs_nil fun Vs σ H Q ⟨γ, ι, l, xs, lr, r, hl, q⟩ => by
  cases r with
  | nil => exact ⟨rfl, q σ lr (fun _ _ => rfl) rfl⟩
  | cons a b => simp at hl
theorem mgs_cons {x : Str} {i : Nat} {is : List Nat} {es : List Expr} (hN : X.N.Nodup) (h2 : MGs X es is) (hi : X.N[i]? = some x := by rfl) (hx : L2.Loc X.env.scope x := by first | exact Or.inl rfl | exact Or.inr rfl) (hf : X.fn x = true ∨ X.env.scope.names.lookup x = some .local := by first | exact .inl rfl | exact .inr rfl)
    (hs : (assignEach (.Name x pos :: es) X.env).map (·.2) = assign (.Name x pos) X.env :: (assignEach es X.env).map (·.2) := by rfl) : MGs X (.Name x pos :: es) (i :: is) :=
  pgsW (pgs_cons (pg_name hN hi hx hf) h2 hs) fun Vs σ H Q ⟨γ, ι, l, xs, lr, r, hl, q⟩ => by
    cases r with
    | nil => simp at hl
    | cons a b =>
      refine ⟨_, _, rfl, γ, ι, _, _, lr.set a i, b, by simpa using hl, fun σ' lr' e1 e2 => q σ' lr' (fun j hj => ?_) (by rw [e2, List.length_set])⟩
      simp only [List.mem_cons, not_or] at hj
      rw [e1 j hj.2, List.getElem?_set_ne (Ne.symm hj.1)]
theorem mg_tup {es : List Expr} {k : Nat} {is : List Nat} (hc : X.calm = true) (h : MGs X es is) (hn : (assignEach es X.env).length = is.length := by rfl) (hst : (assignEach es X.env).findIdx? (·.1) = none := by rfl) : MG X (.Tuple es k pos) (.tp is) :=
  pgW (pg_tup hc h hn hst) fun V σ H Q ⟨γ, ι, l, v, l', lr, r, e, q⟩ => by
    cases r with
    | @tup xs a vs hp rs =>
      have e : (if xs.length = is.length then some (setAll is xs l) else none) = some l' := e
      by_cases hl : xs.length = is.length
      · rw [if_pos hl] at e
        cases e
        exact ⟨_, _, rfl, hp.elim (fun z => .of z) (fun z => z H), by rw [← rs.length]; exact hl, γ, ι, l, _, lr, rs, hl, fun σ' lr' e1 e2 => q σ' lr' (fun j _ h2 => e1 j (h2 _ rfl)) e2⟩
      · rw [if_neg hl] at e; cases e
    | _ => cases e
/-- a, b = e -/
def mAsg (t : Tg) (e : MEx) : MSt := fun l h => (e l h).toS l fun v h1 => match t.set v l with
  | some l' => .nx l' h1
  | none => .stuck
theorem ms_asg {tg e : Expr} {t : Tg} {m : MEx} (he : ME X W e m) (hg : MG X tg t) (hs : swapsWithSole [tg] e pos.line X.env = pure false := by rfl) (hw : swappedStores [tg] e X.env = pure none := by rfl)
    (h1 : (assignEach [tg] X.env).map (·.2) = [assign tg X.env] := by rfl) : MSj X W (.Assign [tg] e pos) (mAsg t m) :=
  psW (ps_asg he hg hs hw h1) fun D σ H ⟨γ, ι, l, h, s, lr, p⟩ => ⟨γ, ι, l, h, s, lr, PostS.run (rel := rV X) s lr p fun ι1 v h1 b H1 e1 lr1 ⟨s1, r1⟩ p1 => by
    cases q : t.set v l with
    | none => rw [q] at p1; exact p1.elim
    | some l' => rw [q] at p1; exact ⟨γ, ι1, l, v, l', lr1, r1, q, fun σ' lr' _ _ => p1 ι1 σ' H1 (.refl _ _) s1 lr'⟩⟩

/-! ### what is walked: a row of values, fixed ahead -/
def ItOk (X : Cx) (γ0 ι0 : List Addr) (H0 : Hp) (J : It) (xs : List MV) : Prop := ∀ γ ι H h, Ext ι0 H0 ι H → (∀ d ∈ γ, d ∈ γ0 ∨ H0 d = none) → SimH X.K X.mg γ ι H h → (∀ i, xs.length ≤ i → J.stop i H) ∧ ∀ i x, xs[i]? = some x → J.go i H ∧ ∀ V H', J.yld i H V H' →
  SimH X.K X.mg γ ι H' h ∧ Ext ι H ι H' ∧ VR X.K X.mg γ ι H' x V
def rI (X : Cx) : Rel (List MV) It := fun γ _ ι H h xs J => SimH X.K X.mg γ ι H h ∧ ItOk X γ ι H J xs
instance : RM (rI X) := ⟨fun _ _ r => r⟩
def MI (X : Cx) (W : WX) (tg e : Expr) (m : MLx) : Prop := PI X tg e (TM X W (rI X) m)
def forGo (t : Tg) (body : MSt) : List MV → MSt
  | [], l, h => .nx l h
  | x :: xs, l, h => match t.set x l with
    | none => .stuck
    | some l' => match body l' h with
      | .nx l2 h2 => forGo t body xs l2 h2
      | .ct l2 h2 => forGo t body xs l2 h2
      | .bk l2 h2 => .nx l2 h2
      | r => r
def mFor (t : Tg) (it : MLx) (body : MSt) : MSt := fun l h => (it l h).toS l fun xs h1 => forGo t body xs l h1
theorem ms_for {tg it : Expr} {body : List Stmt} {t : Tg} {mi : MLx} {mb : MSt} (hp : PassesOwn (model X.prog X.w) X.A X.env X.xe) (hc : X.calm = true) (hi : MI X W tg it mi) (hg : MG X tg t) (hb : MSs X W body mb)
    (hs : ∀ x, foldedSetIterable it X.env x = pure x := by intro _; rfl) : MSj X W (.For tg it body [] pos) (mFor t mi mb) := by
  refine psW (ps_for hp hc hi hg hb hs) fun D σ H ⟨γ, ι, l, h, s, lr, p⟩ => ⟨γ, ι, l, h, s, lr, PostS.run (rel := rI X) s lr p fun ι1 xs h1 J H1 e1 lr1 ⟨s1, io⟩ p1 => ?_⟩
  refine ⟨fun i m σ' H' => m = xs.length - i ∧ i ≤ xs.length ∧ ∃ ι' l' h', Ext ι1 H1 ι' H' ∧ SimH X.K X.mg γ ι' H' h' ∧ LR X.K X.mg γ ι' H' l' σ' ∧ PostS X W γ (forGo t mb (xs.drop i) l' h') ι' H' D,
    ⟨xs.length, rfl, Nat.zero_le _, ι1, l, h1, .refl _ _, s1, lr1, p1⟩, ?_⟩
  rintro i m σ' H' ⟨rfl, hi, ι', l', h', e', s', lr', p'⟩
  obtain ⟨stop, go⟩ := io γ ι' H' h' e' (fun d hd => .inl hd) s'
  by_cases hlt : i < xs.length
  · obtain ⟨g1, g2⟩ := go i xs[i] (List.getElem?_eq_getElem hlt)
    rw [List.drop_eq_getElem_cons hlt] at p'
    unfold forGo at p'
    cases q : t.set xs[i] l' with
    | none => rw [q] at p'; exact p'.elim
    | some l2 =>
      rw [q] at p'
      dsimp only at p'
      refine .inr ⟨g1, fun σ2 H2 => ∃ ι2 l2 h2, Ext ι1 H1 ι2 H2 ∧ SimH X.K X.mg γ ι2 H2 h2 ∧ LR X.K X.mg γ ι2 H2 l2 σ2 ∧ PostS X W γ (forGo t mb (xs.drop (i + 1)) l2 h2) ι2 H2 D,
        fun σ2 H2 z => ⟨xs.length - (i + 1), by omega, rfl, hlt, z⟩, fun V H2 y => ?_⟩
      obtain ⟨s2, e2, r2⟩ := g2 V H2 y
      refine ⟨γ, ι', l', xs[i], l2, lr'.mono (e2.grow s'), r2, q, fun σ2 lr2 _ _ => ⟨γ, ι', l2, h', s2, lr2, ?_⟩⟩
      have e12 := e'.trans e2
      have p2 := PostS.mono p' e2
      cases hb' : mb l2 h' with
      | nx l3 h3 => rw [hb'] at p2; exact fun ι3 σ3 H3 e3 s3 lr3 => ⟨ι3, l3, h3, e12.trans e3, s3, lr3, PostS.mono p2 e3⟩
      | ct l3 h3 => rw [hb'] at p2; exact fun ι3 σ3 H3 e3 s3 lr3 => ⟨ι3, l3, h3, e12.trans e3, s3, lr3, PostS.mono p2 e3⟩
      | bk l3 h3 => rw [hb'] at p2; exact p2
      | rt v h3 => rw [hb'] at p2; exact p2
      | exn c fs l3 h3 => rw [hb'] at p2; exact p2
      | stuck => rw [hb'] at p2; exact p2
  · have e : i = xs.length := by omega
    subst e
    refine .inl ⟨stop _ (Nat.le_refl _), ?_⟩
    rw [List.drop_length] at p'
    exact p' ι' σ' H' (.refl _ _) s' lr'

/-! ### a cell's list walked: it stays as it is meanwhile -/
def rC (X : Cx) : Rel Nat It := fun γ _ ι H h n J => SimH X.K X.mg γ ι H h ∧ ∃ a, ι[n]? = some a ∧ J = Itl X.K a
instance : RM (rC X) := ⟨fun _ _ r => r⟩
def MIC (X : Cx) (W : WX) (tg e : Expr) (m : Loc → MH → MR Nat) : Prop := PI X tg e (TM X W (rC X) m)
/-- the cell holds the list xs -/
def isL (h : MH) (n : Nat) (xs : List MV) : Prop := h[n]? = some (.lst xs) ∨ h[n]? = some (.frz (.lst xs))
open Classical in
noncomputable def forGoC (t : Tg) (body : MSt) (n : Nat) (all : List MV) : List MV → MSt
  | [], l, h => if isL h n all then .nx l h else .stuck
  | x :: xs, l, h => if isL h n all then match t.set x l with
    | none => .stuck
    | some l' => match body l' h with
      | .nx l2 h2 => forGoC t body n all xs l2 h2
      | .ct l2 h2 => forGoC t body n all xs l2 h2
      | .bk l2 h2 => .nx l2 h2
      | r => r
    else .stuck
noncomputable def mForC (t : Tg) (it : Loc → MH → MR Nat) (body : MSt) : MSt := fun l h => (it l h).toS l fun n h1 => match h1[n]? with
  | some (.lst xs) => forGoC t body n xs xs l h1
  | some (.frz (.lst xs)) => forGoC t body n xs xs l h1
  | _ => .stuck
theorem SimH.list {h : MH} {γ ι : List Addr} {H : Hp} (s : SimH X.K X.mg γ ι H h) {n : Nat} {xs : List MV} {a : Addr} (e : isL h n xs) (ea : ι[n]? = some a) : ∃ vs, SqL X.K H a vs ∧ VRs X.K X.mg γ ι H xs vs := by
  rcases e with e | e
  · obtain ⟨w, hw, c⟩ := s.cell e ea
    cases c with
    | lst r => exact ⟨_, .of hw, r⟩
  · obtain ⟨w, hw, c⟩ := s.cell e ea
    cases c with
    | frz c =>
      cases c with
      | lst r => exact ⟨_, .inl (.inr ⟨_, hw⟩), r⟩
theorem sqL_inj {K : PySem.W.Frag} {H : Hp} {a : Addr} {u : HO} {vs ws : List V} (hu : H a = some u) (x : Rd H a (.lst vs)) (y : Rd H a (.lst ws)) : vs = ws := by
  rcases x with x | ⟨o, x⟩
  · rcases y with y | ⟨o', y⟩
    · rw [x] at y; cases y; rfl
    · rw [x] at y; cases y
  · rcases y with y | ⟨o', y⟩
    · rw [x] at y; cases y
    · rw [x] at y; cases y; rfl
theorem SimH.listR {h : MH} {γ ι : List Addr} {H : Hp} (s : SimH X.K X.mg γ ι H h) {n : Nat} {xs : List MV} {a : Addr} (e : isL h n xs) (ea : ι[n]? = some a) : ∃ vs, Rd H a (.lst vs) ∧ VRs X.K X.mg γ ι H xs vs := by
  rcases e with e | e
  · obtain ⟨w, hw, c⟩ := s.cell e ea
    cases c with
    | lst r => exact ⟨_, .inl hw, r⟩
  · obtain ⟨w, hw, c⟩ := s.cell e ea
    cases c with
    | frz c =>
      cases c with
      | lst r => exact ⟨_, .inr ⟨_, hw⟩, r⟩
theorem forC_ok {D : Ends} {γ : List Addr} {σ : L2.St} {ι : List Addr} {H : Hp} {h : MH} {l : Loc} {t : Tg} {mb : MSt} {n : Nat} {xs : List MV} {a : Addr} {g : TG} (s : SimH X.K X.mg γ ι H h) (lr : LR X.K X.mg γ ι H l σ) (ea : ι[n]? = some a) (p : PostS X W γ (forGoC t mb n xs xs l h) ι H D)
    (hg : g = fun V σ H Q => ∃ γ ι l v l', LR X.K X.mg γ ι H l σ ∧ VR X.K X.mg γ ι H v V ∧ t.set v l = some l' ∧ ∀ σ', LR X.K X.mg γ ι H l' σ' → (∀ j, (∀ i, t = .nm i → j ≠ i) → (∀ is, t = .tp is → j ∉ is) → σ'[j]? = σ[j]?) → σ'.length = σ.length → Q σ' H) :
    ∃ Wi : Nat → Nat → L2.St → Hp → Prop, (∃ m, Wi 0 m σ H) ∧ ∀ i m σ H, Wi i m σ H →
      ((Itl X.K a).stop i H ∧ D.nx σ H) ∨ ((Itl X.K a).go i H ∧ ∃ N : L2.St → Hp → Prop, (∀ σ' H', N σ' H' → ∃ m', m' < m ∧ Wi (i + 1) m' σ' H') ∧ ∀ x H', (Itl X.K a).yld i H x H' → g x σ H' fun σ2 H2 => TMS X W mb { D with nx := N, ct := N, bk := D.nx } σ2 H2) := by
  subst hg
  refine ⟨fun i m σ' H' => m = xs.length - i ∧ i ≤ xs.length ∧ ∃ ι' l' h', Ext ι H ι' H' ∧ SimH X.K X.mg γ ι' H' h' ∧ LR X.K X.mg γ ι' H' l' σ' ∧ PostS X W γ (forGoC t mb n xs (xs.drop i) l' h') ι' H' D,
    ⟨xs.length, rfl, Nat.zero_le _, ι, l, h, .refl _ _, s, lr, p⟩, ?_⟩
  rintro i m σ' H' ⟨rfl, hi, ι', l', h', e', s', lr', p'⟩
  have ea' : ι'[n]? = some a := (e'.grow s).get ea
  by_cases hlt : i < xs.length
  · rw [List.drop_eq_getElem_cons hlt] at p'
    unfold forGoC at p'
    by_cases il : isL h' n xs
    · rw [if_pos il] at p'
      obtain ⟨vs, hvs, rvs⟩ := s'.listR il ea'
      obtain ⟨V0, hV0, rV0⟩ := rvs.get (List.getElem?_eq_getElem hlt)
      cases q : t.set xs[i] l' with
      | none => rw [q] at p'; exact p'.elim
      | some l2 =>
        rw [q] at p'
        dsimp only at p'
        refine .inr ⟨⟨vs, V0, .inl hvs, hV0⟩, fun σ2 H2 => ∃ ι2 l2 h2, Ext ι H ι2 H2 ∧ SimH X.K X.mg γ ι2 H2 h2 ∧ LR X.K X.mg γ ι2 H2 l2 σ2 ∧ PostS X W γ (forGoC t mb n xs (xs.drop (i + 1)) l2 h2) ι2 H2 D,
          fun σ2 H2 z => ⟨xs.length - (i + 1), by omega, rfl, hlt, z⟩, fun V H2 y => ?_⟩
        obtain ⟨rfl, y⟩ := y
        have eV : V0 = V := Option.some.inj (hV0.symm.trans (y vs (.inl hvs)))
        subst eV
        refine ⟨γ, ι', l', xs[i], l2, lr', rV0, q, fun σ2 lr2 _ _ => ⟨γ, ι', l2, h', s', lr2, ?_⟩⟩
        cases hb' : mb l2 h' with
        | nx l3 h3 => rw [hb'] at p'; exact fun ι3 σ3 H3 e3 s3 lr3 => ⟨ι3, l3, h3, e'.trans e3, s3, lr3, PostS.mono p' e3⟩
        | ct l3 h3 => rw [hb'] at p'; exact fun ι3 σ3 H3 e3 s3 lr3 => ⟨ι3, l3, h3, e'.trans e3, s3, lr3, PostS.mono p' e3⟩
        | bk l3 h3 => rw [hb'] at p'; exact p'
        | rt v h3 => rw [hb'] at p'; exact p'
        | exn c fs l3 h3 => rw [hb'] at p'; exact p'
        | stuck => rw [hb'] at p'; exact p'
    · rw [if_neg il] at p'; exact p'.elim
  · have e : i = xs.length := by omega
    subst e
    rw [List.drop_length] at p'
    unfold forGoC at p'
    by_cases il : isL h' n xs
    · rw [if_pos il] at p'
      obtain ⟨vs, hvs, rvs⟩ := s'.listR il ea'
      exact .inl ⟨⟨vs, .inl hvs, by rw [← rvs.length]; exact Nat.le_refl _⟩, p' ι' σ' H' (.refl _ _) s' lr'⟩
    · rw [if_neg il] at p'; exact p'.elim
theorem ms_forC {tg it : Expr} {body : List Stmt} {t : Tg} {mi : Loc → MH → MR Nat} {mb : MSt} (hp : PassesOwn (model X.prog X.w) X.A X.env X.xe) (hc : X.calm = true) (hi : MIC X W tg it mi) (hg : MG X tg t) (hb : MSs X W body mb)
    (hs : ∀ x, foldedSetIterable it X.env x = pure x := by intro _; rfl) : MSj X W (.For tg it body [] pos) (mForC t mi mb) := by
  refine psW (ps_for hp hc hi hg hb hs) fun D σ H ⟨γ, ι, l, h, s, lr, p⟩ => ⟨γ, ι, l, h, s, lr, PostS.run (rel := rC X) s lr p fun ι1 n h1 J H1 e1 lr1 ⟨s1, a, ea, eJ⟩ p1 => ?_⟩
  subst eJ
  split at p1
  · exact forC_ok s1 lr1 ea p1 rfl
  · exact forC_ok s1 lr1 ea p1 rfl
  · exact p1.elim

/-! ### while -/
def whGo (c : MBx) (b : MSt) : Nat → MSt
  | 0, _, _ => .stuck
  | n + 1, l, h => (c l h).toS l fun k h1 => if k then (match b l h1 with
      | .nx l2 h2 => whGo c b n l2 h2
      | .ct l2 h2 => whGo c b n l2 h2
      | .bk l2 h2 => .nx l2 h2
      | r => r) else .nx l h1
open Classical in
/-- some number of turns is enough -/
noncomputable def mWhile (c : MBx) (b : MSt) : MSt := fun l h => if q : ∃ n, whGo c b n l h ≠ .stuck then whGo c b q.choose l h else .stuck
theorem whGo_mono {c : MBx} {b : MSt} : ∀ {n m : Nat} {l : Loc} {h : MH}, n ≤ m → whGo c b n l h ≠ .stuck → whGo c b m l h = whGo c b n l h
  | 0, _, _, _, _, h => absurd rfl h
  | n + 1, 0, _, _, hm, _ => absurd hm (by omega)
  | n + 1, m + 1, l, h, hm, hn => by
    unfold whGo at hn ⊢
    cases e : c l h with
    | exn cn fs h1 => rfl
    | stuck => rfl
    | ok k h1 =>
      rw [e] at hn
      simp only [MR.toS_ok] at hn ⊢
      cases k with
      | false => rfl
      | true =>
        simp only [if_true] at hn ⊢
        cases e2 : b l h1 with
        | nx l2 h2 => rw [e2] at hn; exact whGo_mono (Nat.le_of_succ_le_succ hm) hn
        | ct l2 h2 => rw [e2] at hn; exact whGo_mono (Nat.le_of_succ_le_succ hm) hn
        | bk l2 h2 => rfl
        | rt v h2 => rfl
        | exn cn fs l2 h2 => rfl
        | stuck => rfl
theorem mWhile_of {c : MBx} {b : MSt} {l : Loc} {h : MH} (n : Nat) (hn : whGo c b n l h ≠ .stuck) : mWhile c b l h = whGo c b n l h := by
  unfold mWhile
  have q : ∃ n, whGo c b n l h ≠ .stuck := ⟨n, hn⟩
  rw [dif_pos q]
  rcases Nat.le_total n q.choose with z | z
  · exact whGo_mono z hn
  · exact (whGo_mono z q.choose_spec).symm
theorem ms_while {c : Expr} {body : List Stmt} {mc : MBx} {mb : MSt} (hp : PassesOwn (model X.prog X.w) X.A X.env X.xe) (hc : MT X W c mc) (hb : MSs X W body mb) : MSj X W (.While c body [] pos) (mWhile mc mb) := by
  refine psW (ps_while hp hc hb) fun D σ H ⟨γ, ι, l, h, s, lr, p⟩ => ?_
  unfold mWhile at p
  split at p
  · rename_i q
    generalize q.choose = n at p
    refine ⟨fun m σ' H' => ∃ ι' l' h', SimH X.K X.mg γ ι' H' h' ∧ LR X.K X.mg γ ι' H' l' σ' ∧ PostS X W γ (whGo mc mb m l' h') ι' H' D, ⟨n, ι, l, h, s, lr, p⟩, ?_⟩
    rintro m σ' H' ⟨ι', l', h', s', lr', p'⟩
    cases m with
    | zero => exact p'.elim
    | succ m =>
      unfold whGo at p'
      refine ⟨γ, ι', l', h', s', lr', PostS.run (rel := rB X) s' lr' p' fun ι1 k h1 b H1 e1 lr1 ⟨s1, r1⟩ p1 => ?_⟩
      cases r1
      cases k with
      | false => exact p1 ι1 σ' H1 (.refl _ _) s1 lr1
      | true =>
        simp only [if_true] at p1 ⊢
        refine ⟨fun σ2 H2 => ∃ ι2 l2 h2, SimH X.K X.mg γ ι2 H2 h2 ∧ LR X.K X.mg γ ι2 H2 l2 σ2 ∧ PostS X W γ (whGo mc mb m l2 h2) ι2 H2 D, fun σ2 H2 z => ⟨m, Nat.lt_succ_self _, z⟩, γ, ι1, l', h1, s1, lr1, ?_⟩
        cases e2 : mb l' h1 with
        | nx l3 h3 => rw [e2] at p1; exact fun ι3 σ3 H3 e3 s3 lr3 => ⟨ι3, l3, h3, s3, lr3, PostS.mono p1 e3⟩
        | ct l3 h3 => rw [e2] at p1; exact fun ι3 σ3 H3 e3 s3 lr3 => ⟨ι3, l3, h3, s3, lr3, PostS.mono p1 e3⟩
        | bk l3 h3 => rw [e2] at p1; exact p1
        | rt v h3 => rw [e2] at p1; exact p1
        | exn cn fs l3 h3 => rw [e2] at p1; exact p1
        | stuck => rw [e2] at p1; exact p1
  · exact p.elim

/-! ### comprehensions: a fresh list -/
def lcGo (t : Tg) (c : MBx) (e : MEx) : List MV → List MV → Loc → MH → MR (List MV)
  | [], acc, _, h => .ok acc h
  | x :: xs, acc, l, h => match t.set x l with
    | none => .stuck
    | some l' => (c l' h).bind fun k h1 => if k then (e l' h1).bind fun v h2 => if acc.length < 16777216 then lcGo t c e xs (acc ++ [v]) l h2 else .stuck else lcGo t c e xs acc l h1
def wipeL (l : Loc) : List Nat → Loc
  | [] => l
  | v :: vs => (wipeL l vs).set v none
def MR.noX {α : Type} (r : MR α) : MR α := match r with
  | .ok a h => .ok a h
  | _ => .stuck
@[simp] theorem MR.noX_ok {α : Type} (a : α) (h : MH) : (MR.ok a h).noX = .ok a h := rfl
@[simp] theorem MR.noX_stuck {α : Type} : (MR.stuck : MR α).noX = .stuck := rfl
@[simp] theorem MR.noX_exn {α : Type} (c fs h) : (MR.exn c fs h : MR α).noX = .stuck := rfl
def mLC (t : Tg) (own : List Nat) (it : MLx) (c : MBx) (e : MEx) : MLx := fun l h => (it l h).bind fun xs h1 => (lcGo t c e xs [] (wipeL l own) h1).noX
def mYes : MBx := fun _ h => .ok true h
def MTs (X : Cx) (W : WX) (ifs : List Expr) (m : MBx) : Prop := PTs X ifs (TM X W (rB X) m)
theorem mts_nil : MTs X W [] mYes := ⟨fun pins s σ H Q I ⟨γ, ι, l, h, s', lr, p⟩ => pts_nil.run pins s σ H Q I (p.ok ⟨s', rfl⟩)⟩
theorem mts_one {c : Expr} {m : MBx} (h : MT X W c m) : MTs X W [c] m := pts_one h
theorem LR.wipe {K mg γ ι H l σ} (r : LR K mg γ ι H l σ) : ∀ vs, LR K mg γ ι H (wipeL l vs) (L2.wipe σ vs)
  | [] => r
  | v :: vs => (LR.wipe r vs).unset v
theorem wipe_wipe (σ : L2.St) : ∀ vs : List Nat, ∀ j, j ∈ vs → j < σ.length → (L2.wipe σ vs)[j]? = some none
  | [], j, h, _ => by simp at h
  | v :: vs, j, h, hl => by
    unfold L2.wipe
    by_cases e : v = j
    · subst e
      rw [List.getElem?_set_self (by rw [wipe_length]; exact hl)]
    · rw [List.getElem?_set_ne e]
      rcases List.mem_cons.mp h with z | z
      · exact absurd z.symm e
      · exact wipe_wipe σ vs j z hl
theorem wipe_eq {σ σ' : L2.St} {vs : List Nat} (hl : σ'.length = σ.length) (h : ∀ j, j ∉ vs → σ'[j]? = σ[j]?) : L2.wipe σ' vs = L2.wipe σ vs := by
  apply List.ext_getElem?
  intro j
  by_cases hj : j ∈ vs
  · by_cases hlt : j < σ.length
    · rw [wipe_wipe σ' vs j hj (by rw [hl]; exact hlt), wipe_wipe σ vs j hj hlt]
    · rw [List.getElem?_eq_none (by rw [wipe_length, hl]; omega), List.getElem?_eq_none (by rw [wipe_length]; omega)]
  · rw [wipe_out hj, wipe_out hj, h j hj]
theorem wipe_idem {σ : L2.St} {vs : List Nat} : L2.wipe (L2.wipe σ vs) vs = L2.wipe σ vs := wipe_eq (wipe_length _ _) fun j hj => wipe_out hj
def Tg.within (t : Tg) (vs : List Nat) : Bool := match t with
  | .nm i => decide (i ∈ vs)
  | .tp is => is.all fun i => decide (i ∈ vs)
/-- a hidden list changed -/
theorem SimH.off {γ ι : List Addr} {H : Hp} {h : MH} (s : SimH X.K X.mg γ ι H h) {p : Addr} {vs : List V} (hg : p ∈ γ) : SimH X.K X.mg γ ι (upd H p (.lst vs)) h ∧ Grow γ ι H γ ι (upd H p (.lst vs)) := by
  obtain ⟨hn, ws, e⟩ := s.2.2.2 p hg
  have g : Grow γ ι H γ ι (L2.upd H p (.lst vs)) := ⟨List.prefix_refl _, fun q us e' => by
    rw [upd_ne (fun z => by rw [z, e] at e'; cases e')]; exact e', fun q o e' n n2 => ⟨n, n2, by rw [upd_ne (fun z => n2 (by rw [z]; exact hg))]; exact e'⟩⟩
  refine ⟨⟨s.1, s.2.1, fun m u b em eb => ?_, fun d hd => ⟨(s.2.2.2 d hd).1, ?_⟩⟩, g⟩
  · obtain ⟨w', hw, cw⟩ := s.2.2.1 m u b em eb
    exact ⟨w', by rw [upd_ne (fun z => hn (by rw [← z]; exact List.mem_of_getElem? eb))]; exact hw, cw.mono g⟩
  · by_cases z : d = p
    · subst z; exact ⟨vs, upd_same⟩
    · rw [upd_ne z]; exact (s.2.2.2 d hd).2
theorem Ext.off {ι H ι' H'} (e : Ext ι H ι' H') {p : Addr} {w : HO} (h : H p = none) : Ext ι H ι' (upd H' p w) :=
  ⟨e.pre, fun b o q n => by rw [upd_ne (ne_of_none q h)]; exact e.keep b o q n, e.fresh, fun b o w q => by rw [upd_ne (ne_of_none q h)]; exact e.frz b o w q⟩
/-- the target's reading -/
abbrev gM (X : Cx) (t : Tg) : TG := fun V σ H Q => ∃ γ ι l v l', LR X.K X.mg γ ι H l σ ∧ VR X.K X.mg γ ι H v V ∧ t.set v l = some l' ∧ ∀ σ', LR X.K X.mg γ ι H l' σ' → (∀ j, (∀ i, t = .nm i → j ≠ i) → (∀ is, t = .tp is → j ∉ is) → σ'[j]? = σ[j]?) → σ'.length = σ.length → Q σ' H
theorem lc_tm {own : List (Str × Nat)} {t : Tg} {mi : MLx} {mt : MBx} {me : MEx} {σ : L2.St} {H : Hp} {Q : VK} (htw : t.within (own.map (·.2)) = true) (h0 : TM X W (rL X) (mLC t (own.map (·.2)) mi mt me) σ H Q) :
    tLc (TM X W (rI X) mi) (gM X t) (TM X W0 (rB X) mt) (TM X W0 (rV X) me) (own.map (·.2)) σ H Q := by
  obtain ⟨γ, ι, l, h, s, lr, p⟩ := h0
  generalize own.map (·.2) = vs at *
  refine ⟨γ, ι, l, h, s, lr, p.seq (rel := rI X) fun ι1 xs h1 J H1 e1 ⟨s1, io⟩ p1 D hD => ?_⟩
  have lr1 := lr.mono (e1.grow s)
  have hDg : D ∉ γ := s1.not_g hD
  obtain ⟨sD, eD, gD⟩ := s1.layG (vs := []) hD
  refine ⟨fun i m H' => m = xs.length - i ∧ i ≤ xs.length ∧ ∃ ι' h' acc ws, Ext ι1 H1 ι' H' ∧ SimH X.K X.mg (D :: γ) ι' H' h' ∧ H' D = some (.lst ws) ∧ VRs X.K X.mg (D :: γ) ι' H' acc ws ∧ Grow γ ι1 H1 (D :: γ) ι' H' ∧ Post X W (rL X) γ σ (lcGo t mt me (xs.drop i) acc (wipeL l vs) h').noX ι1 H1 Q, ⟨xs.length, rfl, Nat.zero_le _, ?_⟩, ?_⟩
  · exact ⟨ι1, h1, [], [], eD, sD, upd_same, .nil, gD, p1⟩
  rintro i m H' ⟨rfl, hi, ι', h', acc, ws, e', s', hDw, ra, gr, p'⟩
  obtain ⟨stop, go⟩ := io (D :: γ) ι' H' h' e' (fun d hd => (List.mem_cons.mp hd).elim (fun z => .inr (by rw [z]; exact hD)) .inl) s'
  by_cases hlt : i < xs.length
  · obtain ⟨g1, g2⟩ := go i xs[i] (List.getElem?_eq_getElem hlt)
    rw [List.drop_eq_getElem_cons hlt] at p'
    unfold lcGo at p'
    cases q : t.set xs[i] (wipeL l vs) with
    | none => rw [q] at p'; exact p'.elim
    | some l2 =>
      rw [q] at p'
      dsimp only at p'
      refine .inr ⟨g1, fun H2 => ∃ ι' h' acc ws, Ext ι1 H1 ι' H2 ∧ SimH X.K X.mg (D :: γ) ι' H2 h' ∧ H2 D = some (.lst ws) ∧ VRs X.K X.mg (D :: γ) ι' H2 acc ws ∧ Grow γ ι1 H1 (D :: γ) ι' H2 ∧ Post X W (rL X) γ σ (lcGo t mt me (xs.drop (i + 1)) acc (wipeL l vs) h').noX ι1 H1 Q,
        fun H2 z => ⟨xs.length - (i + 1), by omega, rfl, hlt, z⟩, fun V H2 y => ?_⟩
      obtain ⟨s2, e2, r2⟩ := g2 V H2 y
      have hDi := (s'.2.2.2 D List.mem_cons_self).1
      have hD2 := e2.keep D _ hDw hDi
      have e12 := e'.trans e2
      have gr2 := gr.trans (e2.grow s')
      refine ⟨D :: γ, ι', wipeL l vs, xs[i], l2, (lr1.mono gr2).wipe vs, r2, q, fun σ2 lr2 hj hl => ⟨?_, D :: γ, ι', l2, h', s2, lr2, ?_⟩⟩
      · rw [← wipe_idem (σ := σ)]
        refine wipe_eq hl fun j hjv => hj j (fun i e z => ?_) (fun is e z => ?_)
        · subst e; subst z; exact hjv (of_decide_eq_true htw)
        · subst e; exact hjv (of_decide_eq_true (List.all_eq_true.mp htw j z))
      have ra2 := ra.mono (e2.grow s')
      cases ec : mt l2 h' with
      | exn c fs h3 => rw [ec] at p'; exact p'.elim
      | stuck => rw [ec] at p'; exact p'.elim
      | ok k h3 =>
        rw [ec] at p'
        simp only [MR.bind_ok] at p'
        rintro ι3 b H3 e3 ⟨s3, rb⟩
        cases rb
        have hD3 := e3.keep D _ hD2 hDi
        have hDi3 := (s3.2.2.2 D List.mem_cons_self).1
        have ra3 := ra2.mono (e3.grow s2)
        have gr3 := gr2.trans (e3.grow s2)
        cases k with
        | false => exact ⟨ι3, h3, acc, ws, e12.trans e3, s3, hD3, ra3, gr3, p'⟩
        | true =>
          simp only [if_true] at p' ⊢
          refine ⟨D :: γ, ι3, l2, h3, s3, lr2.mono (e3.grow s2), ?_⟩
          cases ee : me l2 h3 with
          | exn c fs h4 => rw [ee] at p'; exact p'.elim
          | stuck => rw [ee] at p'; exact p'.elim
          | ok v h4 =>
            rw [ee] at p'
            simp only [MR.bind_ok] at p'
            rintro ι4 V4 H4 e4 ⟨s4, r4⟩
            have hD4 := e4.keep D _ hD3 hDi3
            have ra4 := ra3.mono (e4.grow s3)
            by_cases ha : acc.length < 16777216
            · rw [if_pos ha] at p'
              obtain ⟨s5, g5⟩ := s4.off (vs := ws ++ [V4]) List.mem_cons_self
              exact ⟨ws, hD4, by rw [← ra4.length, sizeLine_eq]; exact ha, ι4, h4, acc ++ [v], ws ++ [V4], ((e12.trans e3).trans e4).off hD, s5, upd_same, (ra4.mono g5).append (.one (VR.mono g5 r4)), (gr3.trans (e4.grow s3)).trans g5, p'⟩
            · rw [if_neg ha] at p'; exact p'.elim
  · have e : i = xs.length := by omega
    subst e
    refine .inl ⟨stop _ (Nat.le_refl _), ?_⟩
    rw [List.drop_length] at p'
    exact p' ι' (.ref D) H' e' ⟨D, ws, rfl, s', hDw, hD, ra⟩
theorem ml_lc {elt tg iter : Expr} {ifs : List Expr} {scope : Scope} {own : List (Str × Nat)} {t : Tg} {mi : MLx} {mt : MBx} {me : MEx} (hc : X.calm = true) (hN : X.N.Nodup) (hi : MI X W tg iter mi) (ok : BlkOk X.N X.env.scope scope own) (htw : t.within (own.map (·.2)) = true)
    (hg : ∀ (s : Shared) (H : Hp) (C : Addr) (cl : List (Str × Addr)) (fp : List Addr), MG (X.blk s H scope (compEnvC scope cl C X.env) fp) tg t)
    (ht : ∀ (s : Shared) (H : Hp) (C : Addr) (cl : List (Str × Addr)) (fp : List Addr), MTs (X.blk s H scope (compEnvC scope cl C X.env) fp) W0 ifs mt)
    (he : ∀ (s : Shared) (H : Hp) (C : Addr) (cl : List (Str × Addr)) (fp : List Addr), ME (X.blk s H scope (compEnvC scope cl C X.env) fp) W0 elt me) (hs : ∀ x, foldedSetIterable iter X.env x = pure x := by intro _; rfl) :
    MLs X W (.ListComp elt [⟨tg, iter, ifs, 0⟩] scope pos) (mLC t (own.map (·.2)) mi mt me) :=
  peW (pe_lc (g := gM X t) (tt := TM X W0 (rB X) mt) (te := TM X W0 (rV X) me) hc hN hi ok hg ht he hs) fun σ H Q h => lc_tm htw h
/-- name = [..] on one line, the name a local -/
theorem ms_setLc {i : Nat} {y : Str} {py spos : Pos} {elt tg iter : Expr} {ifs : List Expr} {scope : Scope} {own : List (Str × Nat)} {t : Tg} {mi : MLx} {mt : MBx} {me : MEx} (k : MLx → MEx)
    (hk : ∀ (m : MLx) σ H Q, TM X W (rV X) (k m) σ H Q → TM X W (rL X) m σ H Q)
    (hc : X.calm = true) (hN : X.N.Nodup) (hi : MI X W tg iter mi) (ok : BlkOk X.N X.env.scope scope own) (htw : t.within (own.map (·.2)) = true)
    (hg : ∀ (s : Shared) (H : Hp) (C : Addr) (cl : List (Str × Addr)) (fp : List Addr), MG (X.blk s H scope (compEnvC scope cl C X.env) fp) tg t)
    (ht : ∀ (s : Shared) (H : Hp) (C : Addr) (cl : List (Str × Addr)) (fp : List Addr), MTs (X.blk s H scope (compEnvC scope cl C X.env) fp) W0 ifs mt)
    (he : ∀ (s : Shared) (H : Hp) (C : Addr) (cl : List (Str × Addr)) (fp : List Addr), ME (X.blk s H scope (compEnvC scope cl C X.env) fp) W0 elt me)
    (hy : X.N[i]? = some y := by rfl) (hyl : X.env.scope.names.lookup y = some .local := by rfl)
    (hsw : swapsWith (.ListComp elt [⟨tg, iter, ifs, 0⟩] scope pos) (some (.Name y py)) spos.line X.env = pure true := by exact sw_true rfl rfl rfl (by decide +kernel)) (hs : ∀ x, foldedSetIterable iter X.env x = pure x := by intro _; rfl) :
    MSj X W (.Assign [.Name y py] (.ListComp elt [⟨tg, iter, ifs, 0⟩] scope pos) spos) (mSet i (k (mLC t (own.map (·.2)) mi mt me))) :=
  psW (ps_setLc (g := gM X t) (tt := TM X W0 (rB X) mt) (te := TM X W0 (rV X) me) hc hN hy hyl hsw hi ok hg ht he hs) fun D σ H ⟨γ, ι, l, h, s, lr, p⟩ =>
    lc_tm htw (hk _ σ H _ ⟨γ, ι, l, h, s, lr, PostS.run (rel := rV X) s lr p fun ι1 v h1 b H1 e1 lr1 ⟨s1, r1⟩ p1 => p1 ι1 _ H1 (.refl _ _) s1 (lr1.set r1 i)⟩)
theorem fl_tm {m : MLx} {σ : L2.St} {H : Hp} {Q : VK} (h0 : TM X W (rV X) (mFl m) σ H Q) : TM X W (rL X) m σ H Q := by
  obtain ⟨γ, ι, l, h, s, lr, p⟩ := h0
  exact ⟨γ, ι, l, h, s, lr, p.seq fun ι1 x h1 b H1 e1 r1 p1 => p1.ok ⟨(rL.fl s.g_some r1).1, (rL.fl s.g_some r1).2⟩⟩
end
end ML

set_option maxRecDepth 100000
/-! ML4: operators, comparisons, subscripts, slices, built-in functions, list methods. -/
namespace ML
open PySem PySem.Spec PyProof.Rows L2

/-- what a value's list holds -/
def lsOf (h : MH) : MV → Option (List MV)
  | .fl xs => some xs
  | .ref n => match h[n]? with
    | some (.lst xs) => some xs
    | some (.frz (.lst xs)) => some xs
    | _ => none
  | _ => none
@[simp] theorem lsOf_fl (h xs) : lsOf h (.fl xs) = some xs := rfl
abbrev LINE : Nat := 16777216
section
variable {X : Cx} {W : WX} {pos : Pos}
/-- a list that is read, exactly -/
def RdL (K : PySem.W.Frag) (H : Hp) (a : Addr) (vs : List V) : Prop := Rd H a (.lst vs) ∨ KLst K a vs
theorem KLst.sq {K : PySem.W.Frag} {H : Hp} {a : Addr} {vs : List V} (h : KLst K a vs) : SqL K H a vs := by
  obtain ⟨its, n, e, z, r⟩ := h
  exact .inr ⟨_, its.toArray, n, e, rfl, rfl, rfl, by simpa using z, by simpa using r⟩
theorem Inv.rdl {pins : List (Addr × Obj)} {σ : L2.St} {H : Hp} {s : Shared} (I : L2.Inv X pins σ H s) {a : Addr} {vs : List V} (h : RdL X.K H a vs) :
    vs.length ≤ sizeLine ∧ ∃ (its : List Value) (n : Nat), Vals vs its ∧ s.heap.get? a = some { cls := .type "list", data := .seq its.toArray n } := by
  rcases h with h | ⟨its, n, e, z, r⟩
  · obtain ⟨z, its, n, r, e⟩ := h.ok I.hok
    exact ⟨z, its, n, r, e⟩
  · exact ⟨by rw [r.length]; exact z, its, n, r, I.kIn _ _ e⟩
theorem SimH.ls {h : MH} {γ ι : List Addr} {H : Hp} (s : SimH X.K X.mg γ ι H h) {x : MV} {V : L2.V} {xs : List MV} (r : VR X.K X.mg γ ι H x V) (e : lsOf h x = some xs) : ∃ a vs, V = .ref a ∧ SqL X.K H a vs ∧ RdL X.K H a vs ∧ VRs X.K X.mg γ ι H xs vs := by
  cases r with
  | fl h1 h2 h3 h4 =>
    cases e
    exact ⟨_, _, rfl, .inl (h1.elim .inl .inr), .inl (h1.elim .inl .inr), h4⟩
  | flK h1 h4 =>
    cases e
    exact ⟨_, _, rfl, h1.sq, .inr h1, h4⟩
  | @ref n a ea =>
    unfold lsOf at e
    dsimp only at e
    split at e
    · rename_i ys q
      cases e
      obtain ⟨w, hw, c⟩ := s.cell q ea
      cases c with
      | lst r => exact ⟨_, _, rfl, .of hw, .inl (.inl hw), r⟩
    · rename_i ys q
      cases e
      obtain ⟨w, hw, c⟩ := s.cell q ea
      cases c with
      | frz c =>
        cases c with
        | lst r => exact ⟨_, _, rfl, .inl (.inr ⟨_, hw⟩), .inl (.inr ⟨_, hw⟩), r⟩
    · cases e
  | _ => cases e
theorem VR.tupS {K mg γ ι H} {xs : List MV} {V : L2.V} (r : VR K mg γ ι H (.tup xs) V) : ∃ a vs, V = .ref a ∧ SqT K H a vs ∧ VRs K mg γ ι H xs vs := by
  cases r with
  | tup h1 h2 => exact ⟨_, _, rfl, h1.elim (fun z => .of z) (fun z => z H), h2⟩
/-- a fresh list as a value -/
theorem SimH.newFl {h : MH} {γ ι : List Addr} {H : Hp} (s : SimH X.K X.mg γ ι H h) {q : Addr} {xs : List MV} {vs : List V} (hq : H q = none) (r : VRs X.K X.mg γ ι H xs vs) :
    Ext ι H ι (upd H q (.lst vs)) ∧ rV X γ H ι (upd H q (.lst vs)) h (.fl xs) (.ref q) := by
  obtain ⟨e, l⟩ := s.layL hq r
  exact ⟨e, rL.fl s.g_some l⟩
theorem SimH.newTup {h : MH} {γ ι : List Addr} {H : Hp} (s : SimH X.K X.mg γ ι H h) {q : Addr} {xs : List MV} {vs : List V} (hq : H q = none) (r : VRs X.K X.mg γ ι H xs vs) :
    Ext ι H ι (upd H q (.tup vs)) ∧ rV X γ H ι (upd H q (.tup vs)) h (.tup xs) (.ref q) := by
  obtain ⟨s2, e2⟩ := s.lay (w := .tup vs) hq
  exact ⟨e2, s2, .tup (.inl upd_same) (r.mono (e2.grow s))⟩
/-- a fresh list for MLs -/
theorem line_le' {n : Nat} (h : n ≤ LINE) : n ≤ sizeLine := by rw [sizeLine_eq]; exact h

/-! ### + -/
theorem op_catL : OpR X (binaryOp .Add) (fun x y H Q => ∃ l b xs zs, x = .ref l ∧ y = .ref b ∧ RdL X.K H l xs ∧ RdL X.K H b zs ∧ xs.length + zs.length ≤ sizeLine ∧ ∀ p, H p = none → Q (.ref p) (upd H p (.lst (xs ++ zs)))) := by
  intro pins s σ H x y v u Q I rx ry h
  obtain ⟨l, b, xs, zs, rfl, rfl, hH, hB, hz, q⟩ := h
  cases rx
  cases ry
  obtain ⟨z, its, n, r, e⟩ := Inv.rdl I hH
  obtain ⟨z2, its2, n2, r2, e2⟩ := Inv.rdl I hB
  have hl := r.length
  have hl2 := r2.length
  refine PySem.P.add_list e e2 ?_ (by rw [List.size_toArray, List.size_toArray]; omega)
  have ea : its.toArray ++ its2.toArray = (its ++ its2).toArray := by simp
  rw [ea]
  exact ⟨.ref _, _, I.lnew (t' := s.toks) (r.append r2) (by rw [List.length_append]; omega), rfl, q _ I.fresh⟩
def addO : MOp := fun x y h => match x, y with
  | .int i, .int j => .ok (.int (i + j)) h
  | .str a, .str b => if a.length + b.length ≤ LINE then .ok (.str (a ++ b)) h else .stuck
  | .tup a, .tup b => if a.length + b.length ≤ LINE then .ok (.tup (a ++ b)) h else .stuck
  | x, y => match lsOf h x, lsOf h y with
    | some a, some b => if a.length + b.length ≤ LINE then .ok (.fl (a ++ b)) h else .stuck
    | _, _ => .stuck
theorem nx_ok {α : Type} {a : α} {h : MH} : NoX (.ok a h) := fun _ _ _ e => by cases e
theorem nx_stuck {α : Type} : NoX (.stuck : MR α) := fun _ _ _ e => by cases e
theorem nx_ite {α : Type} {c : Prop} [Decidable c] {a b : MR α} (ha : NoX a) (hb : NoX b) : NoX (if c then a else b) := by split <;> assumption
theorem nx_add (x y h) : NoX (addO x y h) := by
  unfold addO
  split
  · exact nx_ok
  · exact nx_ite nx_ok nx_stuck
  · exact nx_ite nx_ok nx_stuck
  · split
    · exact nx_ite nx_ok nx_stuck
    · exact nx_stuck
theorem om_add : OpM X (binaryOp .Add) addO := by
  rintro pins s σ H V1 V2 v u Q I r1 r2 ⟨γ, ι, h, x, y, sm, q1, q2, p⟩
  unfold addO at p
  split at p
  · cases q1; cases q2
    exact op_add pins s σ H _ _ v u Q I r1 r2 ⟨_, _, rfl, rfl, p.ok ⟨sm, .int _⟩⟩
  · cases q1; cases q2
    split at p
    · rename_i hz
      exact op_add_str pins s σ H _ _ v u Q I r1 r2 ⟨_, _, rfl, rfl, line_le hz, p.ok ⟨sm, .str _⟩⟩
    · exact p.elim
  · obtain ⟨a, vs, rfl, sa, ra⟩ := q1.tupS
    obtain ⟨b, ws, rfl, sb, rb⟩ := q2.tupS
    split at p
    · rename_i hz
      have hz' : vs.length + ws.length ≤ sizeLine := line_le (by rw [← ra.length, ← rb.length]; exact hz)
      refine op_catA pins s σ H _ _ v u Q I r1 r2 ⟨a, b, vs, ws, rfl, rfl, sa, sb, hz', fun e => ?_, fun _ e => ?_, fun _ _ q hq => ?_⟩
      · subst e
        cases ra
        exact p.ok ⟨sm, q2⟩
      · subst e
        cases rb
        rw [List.append_nil] at p
        exact p.ok ⟨sm, q1⟩
      · obtain ⟨e, r⟩ := sm.newTup hq (ra.append rb)
        exact p.okE e r
    · exact p.elim
  · split at p
    · rename_i e1 e2
      obtain ⟨a, vs, rfl, _, sa, ra⟩ := sm.ls q1 e1
      obtain ⟨b, ws, rfl, _, sb, rb⟩ := sm.ls q2 e2
      split at p
      · rename_i hz
        refine op_catL pins s σ H _ _ v u Q I r1 r2 ⟨a, b, vs, ws, rfl, rfl, sa, sb, line_le (by rw [← ra.length, ← rb.length]; exact hz), fun q hq => ?_⟩
        obtain ⟨e, r⟩ := sm.newFl hq (ra.append rb)
        exact p.okE e r
      · exact p.elim
    · exact p.elim

/-! ### ints -/
def subO : MOp := fun x y h => match x, y with
  | .int i, .int j => .ok (.int (i - j)) h
  | _, _ => .stuck
theorem nx_sub (x y h) : NoX (subO x y h) := by unfold subO; split; exact nx_ok; exact nx_stuck
theorem om_sub : OpM X (binaryOp .Sub) subO := by
  rintro pins s σ H V1 V2 v u Q I r1 r2 ⟨γ, ι, h, x, y, sm, q1, q2, p⟩
  unfold subO at p
  split at p
  · cases q1; cases q2
    exact op_sub pins s σ H _ _ v u Q I r1 r2 ⟨_, _, rfl, rfl, p.ok ⟨sm, .int _⟩⟩
  · exact p.elim
def modO : MOp := fun x y h => match x, y with
  | .int i, .int j => if 0 < j then .ok (.int (i % j)) h else .stuck
  | _, _ => .stuck
theorem nx_mod (x y h) : NoX (modO x y h) := by unfold modO; split; exact nx_ite nx_ok nx_stuck; exact nx_stuck
theorem om_mod : OpM X (binaryOp .Mod) modO := by
  rintro pins s σ H V1 V2 v u Q I r1 r2 ⟨γ, ι, h, x, y, sm, q1, q2, p⟩
  unfold modO at p
  split at p
  · cases q1; cases q2
    split at p
    · rename_i hz
      exact op_mod pins s σ H _ _ v u Q I r1 r2 ⟨_, _, rfl, rfl, hz, p.ok ⟨sm, .int _⟩⟩
    · exact p.elim
  · exact p.elim
def fdivO : MOp := fun x y h => match x, y with
  | .int i, .int j => if 0 < j ∧ j.natAbs.log2 < 9000 then .ok (.int (i / j)) h else .stuck
  | _, _ => .stuck
theorem nx_fdiv (x y h) : NoX (fdivO x y h) := by unfold fdivO; split; exact nx_ite nx_ok nx_stuck; exact nx_stuck
theorem om_fdiv : OpM X (binaryOp .FloorDiv) fdivO := by
  rintro pins s σ H V1 V2 v u Q I r1 r2 ⟨γ, ι, h, x, y, sm, q1, q2, p⟩
  unfold fdivO at p
  split at p
  · cases q1; cases q2
    split at p
    · rename_i hz
      exact op_fdivW pins s σ H _ _ v u Q I r1 r2 ⟨_, _, rfl, rfl, hz, p.ok ⟨sm, .int _⟩⟩
    · exact p.elim
  · exact p.elim
def powO : MOp := fun x y h => match x, y with
  | .int i, .int j => if 0 ≤ j ∧ j ≤ 1000000 ∧ i.natAbs < 2 ^ 64 then .ok (.int (i ^ j.toNat)) h else .stuck
  | _, _ => .stuck
theorem nx_pow (x y h) : NoX (powO x y h) := by unfold powO; split; exact nx_ite nx_ok nx_stuck; exact nx_stuck
theorem om_pow : OpM X (binaryOp .Pow) powO := by
  rintro pins s σ H V1 V2 v u Q I r1 r2 ⟨γ, ι, h, x, y, sm, q1, q2, p⟩
  unfold powO at p
  split at p
  · cases q1; cases q2
    split at p
    · rename_i hz
      exact op_pow pins s σ H _ _ v u Q I r1 r2 ⟨_, _, rfl, rfl, hz, p.ok ⟨sm, .int _⟩⟩
    · exact p.elim
  · exact p.elim
/-- one factor below 2^64, or both of together less than a hundred million bits -/
def MulOk (i j : Int) : Prop := (-(2 ^ 64) < i ∧ i < 2 ^ 64) ∨ (-(2 ^ 64) < j ∧ j < 2 ^ 64) ∨ i.natAbs.log2 + j.natAbs.log2 < 100000000
instance (i j : Int) : Decidable (MulOk i j) := by unfold MulOk; exact inferInstance
theorem MulOk.ok {i j : Int} (h : MulOk i j) : IntMulOk i j := by
  rcases h with h | h | h
  · exact .of_left (intBits_le_64 h.1 h.2)
  · exact .of_right (intBits_le_64 h.1 h.2)
  · have b : ∀ x : Int, Builtin.Int.intBits x ≤ x.natAbs.log2 + 1 := fun x => by
      unfold Builtin.Int.intBits
      split <;> omega
    have h1 := b i
    have h2 := b j
    have e : bitsLine = 134217728 := by decide
    unfold IntMulOk
    intro z
    rw [Bool.and_eq_true] at z
    have z2 := z.2
    unfold Builtin.Int.intTooBig at z2
    have z3 := of_decide_eq_true z2
    rw [e] at z3
    omega
theorem op_mulM : OpR X (binaryOp .Mult) (L2.rI MulOk fun i j => .int (i * j)) := opI fun _ _ _ _ _ _ _ hc q => mul_int q hc.ok
def negO (x : MV) (h : MH) : MR MV := match x with
  | .int i => .ok (.int (-i)) h
  | _ => .stuck
def mNeg (a : MEx) : MEx := fun l h => (a l h).bind negO
theorem me_neg {a : Expr} {m : MEx} (ha : ME X W a m) : ME X W (.UnaryOp .USub a pos) (mNeg m) := by
  refine peW (pe_un un_neg ha) fun σ H Q ⟨γ, ι, l, h, s, lr, p⟩ => ⟨γ, ι, l, h, s, lr, p.seq (rel := rV X) fun ι1 x h1 b H1 e1 ⟨s1, r1⟩ p1 => ?_⟩
  unfold negO at p1
  split at p1
  · cases r1; exact ⟨_, rfl, p1.ok ⟨s1, .int _⟩⟩
  · exact p1.elim

/-! ### order -/
def cmpO (f : Int → Int → Bool) (g : Str → Str → Bool) : MOp := fun x y h => match x, y with
  | .int i, .int j => .ok (.bl (f i j)) h
  | .str i, .str j => .ok (.bl (g i j)) h
  | _, _ => .stuck
theorem nx_cmp {f g} (x y h) : NoX (cmpO f g x y h) := by unfold cmpO; split; exact nx_ok; exact nx_ok; exact nx_stuck
def strLt (i j : Str) : Bool := decide (i.cps.toList < j.cps.toList)
abbrev ltO : MOp := cmpO (fun i j => decide (i < j)) strLt
abbrev gtO : MOp := cmpO (fun i j => decide (j < i)) (fun i j => strLt j i)
def leO : MOp := fun x y h => match x, y with
  | .int i, .int j => .ok (.bl (decide (i ≤ j))) h
  | _, _ => .stuck
def geO : MOp := fun x y h => match x, y with
  | .int i, .int j => .ok (.bl (decide (j ≤ i))) h
  | _, _ => .stuck
theorem nx_le (x y h) : NoX (leO x y h) := by unfold leO; split; exact nx_ok; exact nx_stuck
theorem nx_ge (x y h) : NoX (geO x y h) := by unfold geO; split; exact nx_ok; exact nx_stuck
theorem om_lt : OpM X (compareOp .Lt) ltO := by
  rintro pins s σ H V1 V2 v u Q I r1 r2 ⟨γ, ι, h, x, y, sm, q1, q2, p⟩
  unfold ltO cmpO at p
  split at p
  · cases q1; cases q2
    exact op_lt pins s σ H _ _ v u Q I r1 r2 ⟨_, _, rfl, rfl, p.ok ⟨sm, .bl _⟩⟩
  · cases q1; cases q2
    exact op_lt_str pins s σ H _ _ v u Q I r1 r2 ⟨_, _, rfl, rfl, p.ok ⟨sm, .bl _⟩⟩
  · exact p.elim
theorem om_gt : OpM X (compareOp .Gt) gtO := by
  rintro pins s σ H V1 V2 v u Q I r1 r2 ⟨γ, ι, h, x, y, sm, q1, q2, p⟩
  unfold gtO cmpO at p
  split at p
  · cases q1; cases q2
    exact op_gt pins s σ H _ _ v u Q I r1 r2 ⟨_, _, rfl, rfl, p.ok ⟨sm, .bl _⟩⟩
  · cases q1; cases q2
    exact op_gt_str pins s σ H _ _ v u Q I r1 r2 ⟨_, _, rfl, rfl, p.ok ⟨sm, .bl _⟩⟩
  · exact p.elim
theorem om_le : OpM X (compareOp .LtE) leO := by
  rintro pins s σ H V1 V2 v u Q I r1 r2 ⟨γ, ι, h, x, y, sm, q1, q2, p⟩
  unfold leO at p
  split at p
  · cases q1; cases q2
    exact op_le pins s σ H _ _ v u Q I r1 r2 ⟨_, _, rfl, rfl, p.ok ⟨sm, .bl _⟩⟩
  · exact p.elim
theorem om_ge : OpM X (compareOp .GtE) geO := by
  rintro pins s σ H V1 V2 v u Q I r1 r2 ⟨γ, ι, h, x, y, sm, q1, q2, p⟩
  unfold geO at p
  split at p
  · cases q1; cases q2
    exact op_ge pins s σ H _ _ v u Q I r1 r2 ⟨_, _, rfl, rfl, p.ok ⟨sm, .bl _⟩⟩
  · exact p.elim

/-! ### == -/
mutual
/-- data without cells -/
def toD : MV → Option PyData
  | .non => some .none
  | .bl b => some (.bool b)
  | .int i => some (.int i)
  | .str x => some (.str x)
  | .tup xs => (toDs xs).map .tuple
  | .fl xs => (toDs xs).map .list
  | .ref _ => none
  | .glo _ => none
def toDs : List MV → Option (List PyData)
  | [] => some []
  | x :: xs => (toD x).bind fun d => (toDs xs).map (d :: ·)
end
/-- .. or a cell's list of such -/
def toD0 (h : MH) (x : MV) : Option PyData := match x with
  | .ref n => (lsOf h (.ref n)).bind fun xs => (toDs xs).map .list
  | x => toD x
mutual
theorem toD_ok {K mg γ ι H} : ∀ {x : MV} {V : L2.V} {d : PyData}, VR K mg γ ι H x V → toD x = some d → Dp K H V d
  | _, _, _, .non, e => by cases e; exact .non
  | _, _, _, .bl b, e => by cases e; exact .bl b
  | _, _, _, .int i, e => by cases e; exact .int i
  | _, _, _, .str x, e => by cases e; exact .str x
  | _, _, _, .tup hp r, e => by
    unfold toD at e
    obtain ⟨ds, e1, rfl⟩ := Option.map_eq_some_iff.mp e
    exact .tup (hp.elim (fun z => .of z) (fun z => z _)) (toDs_ok r e1)
  | _, _, _, .fl hp n1 n2 r, e => by
    unfold toD at e
    obtain ⟨ds, e1, rfl⟩ := Option.map_eq_some_iff.mp e
    exact .lst (.inl (hp.elim .inl .inr)) (toDs_ok r e1)
  | _, _, _, .flK hp r, e => by
    unfold toD at e
    obtain ⟨ds, e1, rfl⟩ := Option.map_eq_some_iff.mp e
    exact .lst hp.sq (toDs_ok r e1)
  | _, _, _, .ref q, e => by cases e
  | _, _, _, .glo q, e => by cases e
theorem toDs_ok {K mg γ ι H} : ∀ {xs : List MV} {Vs : List L2.V} {ds : List PyData}, VRs K mg γ ι H xs Vs → toDs xs = some ds → DpAll K H Vs ds
  | _, _, _, .nil, e => by cases e; exact .nil
  | _, _, _, .cons a b, e => by
    unfold toDs at e
    obtain ⟨d, e1, e2⟩ := Option.bind_eq_some_iff.mp e
    obtain ⟨ds, e3, rfl⟩ := Option.map_eq_some_iff.mp e2
    exact .cons (toD_ok a e1) (toDs_ok b e3)
end
theorem toD0_ok {h : MH} {γ ι : List Addr} {H : Hp} (s : SimH X.K X.mg γ ι H h) {x : MV} {V : L2.V} {d : PyData} (r : VR X.K X.mg γ ι H x V) (e : toD0 h x = some d) : Dp X.K H V d := by
  unfold toD0 at e
  split at e
  · obtain ⟨xs, e1, e2⟩ := Option.bind_eq_some_iff.mp e
    obtain ⟨ds, e3, rfl⟩ := Option.map_eq_some_iff.mp e2
    obtain ⟨a, vs, rfl, sa, _, ra⟩ := s.ls r e1
    exact .lst sa (toDs_ok ra e3)
  · exact toD_ok r e
/-- scalars of one kind, and None -/
def scalM : MV → MV → Option Bool
  | .non, .non => some true | .non, .int _ => some false | .int _, .non => some false | .non, .bl _ => some false | .bl _, .non => some false | .non, .str _ => some false | .str _, .non => some false
  | .int i, .int j => some (decide (i = j)) | .bl i, .bl j => some (decide (i = j)) | .str i, .str j => some (decide (i = j))
  | .int _, .str _ => some false | .str _, .int _ => some false | .bl _, .str _ => some false | .str _, .bl _ => some false
  | _, _ => none
theorem scalM_ok {K mg γ ι H} {x y : MV} {V U : L2.V} {b : Bool} (r1 : VR K mg γ ι H x V) (r2 : VR K mg γ ι H y U) (e : scalM x y = some b) : scal V U = true ∧ decide (V = U) = b := by
  unfold scalM at e
  split at e <;> first
    | (cases e; cases r1; cases r2; refine ⟨rfl, ?_⟩; simp)
    | cases e
def eqB (h : MH) (x y : MV) : Option Bool := match scalM x y with
  | some b => some b
  | none => match toD0 h x, toD0 h y with
    | some d, some e => if SeqAt.shaped d = true ∧ SeqAt.shaped e = true then some (PyData.eqv d e) else none
    | _, _ => none
def eqO : MOp := fun x y h => match eqB h x y with
  | some b => .ok (.bl b) h
  | none => .stuck
def neO : MOp := fun x y h => match eqB h x y with
  | some b => .ok (.bl (!b)) h
  | none => .stuck
theorem nx_eq (x y h) : NoX (eqO x y h) := by unfold eqO; split; exact nx_ok; exact nx_stuck
theorem nx_ne (x y h) : NoX (neO x y h) := by unfold neO; split; exact nx_ok; exact nx_stuck
theorem om_eq (hu : X.A.units + 64 < cLine) : OpM X (compareOp .Eq) eqO := by
  rintro pins s σ H V1 V2 v u Q I r1 r2 ⟨γ, ι, h, x, y, sm, q1, q2, p⟩
  unfold eqO eqB at p
  split at p
  · rename_i b e
    split at e
    · rename_i b' e1
      cases e
      obtain ⟨hs, hd⟩ := scalM_ok q1 q2 e1
      exact op_eq pins s σ H _ _ v u Q I r1 r2 ⟨hs, by rw [hd]; exact p.ok ⟨sm, .bl _⟩⟩
    · split at e
      · rename_i d e' e1 e2
        split at e
        · rename_i hs
          cases e
          exact op_eqD hu pins s σ H _ _ v u Q I r1 r2 ⟨d, e', toD0_ok sm q1 e1, toD0_ok sm q2 e2, hs.1, hs.2, p.ok ⟨sm, .bl _⟩⟩
        · cases e
      · cases e
  · exact p.elim
theorem om_ne (hu : X.A.units + 64 < cLine) : OpM X (compareOp .NotEq) neO := by
  rintro pins s σ H V1 V2 v u Q I r1 r2 ⟨γ, ι, h, x, y, sm, q1, q2, p⟩
  unfold neO eqB at p
  split at p
  · rename_i b e
    split at e
    · rename_i b' e1
      cases e
      obtain ⟨hs, hd⟩ := scalM_ok q1 q2 e1
      exact op_ne pins s σ H _ _ v u Q I r1 r2 ⟨hs, by rw [hd]; exact p.ok ⟨sm, .bl _⟩⟩
    · split at e
      · rename_i d e' e1 e2
        split at e
        · rename_i hs
          cases e
          exact op_neD hu pins s σ H _ _ v u Q I r1 r2 ⟨d, e', toD0_ok sm q1 e1, toD0_ok sm q2 e2, hs.1, hs.2, p.ok ⟨sm, .bl _⟩⟩
        · cases e
      · cases e
  · exact p.elim
/-! ### is None -/
def isNO (x : MV) : Bool := match x with
  | .non => true
  | _ => false
theorem isN_ok {K mg γ ι H} {x : MV} {V : L2.V} (r : VR K mg γ ι H x V) : decide (V = .non) = isNO x := by
  cases r <;> simp [isNO]
def mIsN (a : MEx) : MEx := fun l h => (a l h).bind fun x h1 => .ok (.bl (isNO x)) h1
def mNotN (a : MEx) : MEx := fun l h => (a l h).bind fun x h1 => .ok (.bl (!isNO x)) h1
theorem me_isN {a : Expr} {m : MEx} {j pos'} (ha : ME X W a m) : ME X W (.Compare a [.Is] [.Constant .none j pos'] pos) (mIsN m) :=
  peW (pe_cmp (pc_isN ha) rfl) fun σ H Q ⟨γ, ι, l, h, s, lr, p⟩ => ⟨γ, ι, l, h, s, lr, p.seq (rel := rV X) fun ι1 x h1 b H1 e1 ⟨s1, r1⟩ p1 => by
    show Q (.bl (decide (b = .non))) H1
    rw [isN_ok r1]; exact p1.ok ⟨s1, .bl _⟩⟩
theorem me_notN {a : Expr} {m : MEx} {j pos'} (ha : ME X W a m) : ME X W (.Compare a [.IsNot] [.Constant .none j pos'] pos) (mNotN m) :=
  peW (pe_cmp (pc_notN ha) rfl) fun σ H Q ⟨γ, ι, l, h, s, lr, p⟩ => ⟨γ, ι, l, h, s, lr, p.seq (rel := rV X) fun ι1 x h1 b H1 e1 ⟨s1, r1⟩ p1 => by
    show Q (.bl (!decide (b = .non))) H1
    rw [isN_ok r1]; exact p1.ok ⟨s1, .bl _⟩⟩
end
end ML

set_option maxRecDepth 100000
/-! ML5: times, subscripts, slices, built-in functions, list methods, what is walked. -/
namespace ML
open PySem PySem.Spec PyProof.Rows L2

/-! ### t * k -/
section
theorem tuple_mul1 (l : Addr) (items : Array Value) (n : Nat) (dd : Option Addr) (sl : Array (Option Value)) (x : Int) (u : Tok) (c0 : (decide (x < -(2 ^ 63)) || decide (x ≥ 2 ^ 63)) = false) (c1 : (items.isEmpty || x == 1) = true) :
    Meets (Builtin.«tuple.__mul__» ⟨[.ref l, .int x u], []⟩) (fun _ R s => s.heap.get? l = some { cls := .type "tuple", dict := dd, data := .seq items n, slots := sl } ∧ R (.ok (.ret (Value.ref l))) s) :=
  .of_wp fun prog w A R s h => by
    obtain ⟨hp, g, d, tk, os⟩ := s
    obtain ⟨hl, h⟩ := h
    have f1 := AutoSeq1.idx_int
    wp_walk using wpAny_loadPart' hl
    repeat (first
      | (refine wpAny_ite_false (decide_eq_false (by rw [c0]; exact Bool.false_ne_true)) ?_; wp_walk using wpAny_loadPart' hl)
      | (refine wpAny_ite_true (decide_eq_true (by rw [c1])) ?_; wp_walk using wpAny_loadPart' hl))
    exact ⟨_, rfl, h⟩
theorem tuple_mul0 (l : Addr) (items : Array Value) (n : Nat) (dd : Option Addr) (sl : Array (Option Value)) (x : Int) (u : Tok) (c0 : (decide (x < -(2 ^ 63)) || decide (x ≥ 2 ^ 63)) = false) (c1 : (items.isEmpty || x == 1) = false) (c2 : (decide (x ≤ 0) || items.isEmpty) = true) :
    Meets (Builtin.«tuple.__mul__» ⟨[.ref l, .int x u], []⟩) (fun _ R s => s.heap.get? l = some { cls := .type "tuple", dict := dd, data := .seq items n, slots := sl } ∧
      R (.ok (.ret (Value.ref s.heap.objs.size))) { s with heap := s.heap.push { cls := Value.type "tuple", data := Data.seq #[] }, toks := s.toks }) :=
  .of_wp fun prog w A R s h => by
    obtain ⟨hp, g, d, tk, os⟩ := s
    obtain ⟨hl, h⟩ := h
    have f1 := AutoSeq1.idx_int
    wp_walk using wpAny_loadPart' hl
    repeat (first
      | (refine wpAny_ite_false (decide_eq_false (by rw [c0]; exact Bool.false_ne_true)) ?_; wp_walk using wpAny_loadPart' hl)
      | (refine wpAny_ite_false (decide_eq_false (by rw [c1]; exact Bool.false_ne_true)) ?_; wp_walk using wpAny_loadPart' hl)
      | (refine wpAny_ite_true (decide_eq_true (by rw [c2])) ?_; wp_walk using wpAny_loadPart' hl))
    exact ⟨_, rfl, h⟩
variable {X : Cx} {W : WX} {pos : Pos}
/-- a tuple any number of times -/
theorem op_repTA : OpR X (binaryOp .Mult) (fun x y H Q => ∃ l k xs, x = .ref l ∧ y = .int k ∧ SqT X.K H l xs ∧ -(2 ^ 63) ≤ k ∧ k < 2 ^ 63 ∧ xs.length * k.toNat ≤ 16777216 ∧
    (k = 1 ∨ xs = [] → Q (.ref l) H) ∧ (k ≠ 1 → xs ≠ [] → ∀ p, H p = none → Q (.ref p) (upd H p (.tup (List.replicate k.toNat xs).flatten)))) := by
  intro pins s σ H x y v u Q I rx ry h
  obtain ⟨l, k, xs, rfl, rfl, hT, h1, h2, hz, q1, q2⟩ := h
  cases rx
  obtain ⟨t, rfl⟩ := ry
  obtain ⟨its, r, ⟨⟨cls, dd, data, sl⟩, ho, hc, n, hd⟩, hs⟩ := I.tuple hT
  simp only at hc hd
  subst hc hd
  have hle : its.length = xs.length := r.length.symm
  have c0 : (decide (k < -(2 ^ 63)) || decide (k ≥ 2 ^ 63)) = false := by
    rw [decide_eq_false (by omega), decide_eq_false (by omega)] <;> rfl
  by_cases hk : k = 1 ∨ xs = []
  · have c1 : (its.toArray.isEmpty || k == 1) = true := by
      rcases hk with e | e
      · subst e; simp
      · rw [e] at hle
        have : its = [] := List.eq_nil_of_length_eq_zero hle
        subst this; rfl
    exact wpAny_binaryOp_repeat_ref (T := "tuple") (U := "int") (by decide) ⟨_, ho, rfl⟩ (fun s' => typeIs_int s' k t) noFill_tuple_mul F.fills_int_mul F.slot_int_rmul repeat_tuple F.slot_int_index.lookup
      (call_meets F.slot_int_rmul (typeIs_int s k t) F.entry_int_rmul (F.args_int_rmul_2 _ _) (int_rmul_tuple k t l its.toArray n dd sl)
        ⟨ho, rfl, ⟨_, ho, rfl⟩, call_meets F.slot_tuple_mul ⟨_, ho, rfl⟩ F.entry_tuple_mul (F.args_tuple_mul_2 _ _) (tuple_mul1 l its.toArray n dd sl k t c0 c1) ⟨ho, ⟨.ref l, H, I, rfl, q1 hk⟩⟩⟩)
  · have hk1 : k ≠ 1 := fun e => hk (.inl e)
    have hne : xs ≠ [] := fun e => hk (.inr e)
    have hn : its ≠ [] := fun e => hne (by
      rw [e] at hle
      exact List.eq_nil_of_length_eq_zero hle.symm)
    have hi : its.toArray.isEmpty = false := by
      cases its with
      | nil => exact absurd rfl hn
      | cons a b => rfl
    have c1 : (its.toArray.isEmpty || k == 1) = false := by
      rw [hi, Bool.false_or]
      exact beq_eq_false_iff_ne.mpr hk1
    by_cases h0 : k ≤ 0
    · have c2 : (decide (k ≤ 0) || its.toArray.isEmpty) = true := by rw [decide_eq_true h0]; rfl
      refine wpAny_binaryOp_repeat_ref (T := "tuple") (U := "int") (by decide) ⟨_, ho, rfl⟩ (fun s' => typeIs_int s' k t) noFill_tuple_mul F.fills_int_mul F.slot_int_rmul repeat_tuple F.slot_int_index.lookup
        (call_meets F.slot_int_rmul (typeIs_int s k t) F.entry_int_rmul (F.args_int_rmul_2 _ _) (int_rmul_tuple k t l its.toArray n dd sl)
          ⟨ho, rfl, ⟨_, ho, rfl⟩, call_meets F.slot_tuple_mul ⟨_, ho, rfl⟩ F.entry_tuple_mul (F.args_tuple_mul_2 _ _) (tuple_mul0 l its.toArray n dd sl k t c0 c1 c2) ⟨ho, ?_⟩⟩)
      have e0 : k.toNat = 0 := by omega
      have q := q2 hk1 hne _ (I.hok.fresh (Nat.le_refl _))
      rw [e0] at q
      exact ⟨.ref s.heap.objs.size, _, I.laid (t' := s.toks) (o := .tup []) (fun b ob q => Heap.get?_push_of_some _ q) (Nat.le_refl _) ⟨Nat.zero_le _, [], .nil, IsTup.new _ _⟩, rfl, q⟩
    · have hsz0 : its.toArray.size = xs.length := by rw [List.size_toArray, hle]
      have hm : ((its.toArray.size : Nat) : Int) * k ≤ 16777216 := by
        rw [hsz0]
        have : ((xs.length * k.toNat : Nat) : Int) ≤ 16777216 := by omega
        rw [Int.natCast_mul] at this
        rw [Int.toNat_of_nonneg (by omega)] at this
        exact this
      have flen : (List.replicate k.toNat its).flatten.length ≤ sizeLine := by
        rw [PyProof.Rows.lm_len_rep_flat, hle, sizeLine_eq, Nat.mul_comm]
        exact hz
      have c2 : (decide (k ≤ 0) || its.toArray.isEmpty) = false := by
        rw [hi, Bool.or_false]
        exact decide_eq_false h0
      have c4 : Builtin.Tuple.tupleTooMany (((its.toArray.size : Nat) : Int) * k) = false := by
        unfold Builtin.Tuple.tupleTooMany
        rw [sizeLine_eq]
        exact decide_eq_false (by omega)
      refine wpAny_binaryOp_repeat_ref (T := "tuple") (U := "int") (by decide) ⟨_, ho, rfl⟩ (fun s' => typeIs_int s' k t) noFill_tuple_mul F.fills_int_mul F.slot_int_rmul repeat_tuple F.slot_int_index.lookup
        (call_meets F.slot_int_rmul (typeIs_int s k t) F.entry_int_rmul (F.args_int_rmul_2 _ _) (int_rmul_tuple k t l its.toArray n dd sl)
          ⟨ho, rfl, ⟨_, ho, rfl⟩, call_meets F.slot_tuple_mul ⟨_, ho, rfl⟩ F.entry_tuple_mul (F.args_tuple_mul_2 _ _) (tuple_mulW l its.toArray n dd sl k t c0 c1 c2 (by omega) c4 (by rw [size_rep, List.size_toArray]; exact flen)) ⟨ho, ?_⟩⟩)
      rw [size_rep]
      refine ⟨.ref s.heap.objs.size, _, I.laid (t' := s.toks) (o := .tup (List.replicate k.toNat xs).flatten) (fun b ob q => Heap.get?_push_of_some _ q) (Nat.le_refl _) ?_, rfl, q2 hk1 hne _ (I.hok.fresh (Nat.le_refl _))⟩
      exact ⟨by rw [PyProof.Rows.lm_len_rep_flat, sizeLine_eq, Nat.mul_comm]; exact hz, _, r.rep k.toNat, IsTup.new _ _⟩
theorem op_repL : OpR X (binaryOp .Mult) (fun x y H Q => ∃ l k xs, x = .ref l ∧ y = .int k ∧ RdL X.K H l xs ∧ -(2 ^ 63) ≤ k ∧ k < 2 ^ 63 ∧ xs.length * k.toNat ≤ sizeLine ∧
  ∀ p, H p = none → Q (.ref p) (upd H p (.lst (List.replicate k.toNat xs).flatten))) := by
  intro pins s σ H x y v u Q I rx ry h
  obtain ⟨l, k, xs, rfl, rfl, hH, h1, h2, hz, q⟩ := h
  cases rx
  obtain ⟨t, rfl⟩ := ry
  obtain ⟨z, its, n, r, e⟩ := Inv.rdl I hH
  have hl := r.length
  have hlen : its.toArray.size * k.toNat ≤ sizeLine := by rw [List.size_toArray, ← hl]; exact hz
  have hcap : ¬ its.toArray.size * k.toNat > (2 ^ 63 - 1) / 8 := by
    have : (sizeLine : Nat) ≤ (2 ^ 63 - 1) / 8 := by decide
    omega
  have hfit : ¬ (!Builtin.List.listFitsIndex k) = true := by
    rw [fitsIndex_both h1 h2]
    exact Bool.false_ne_true
  have hlong : ¬ Builtin.List.listTooLong (its.toArray.size * k.toNat) = true := by
    rw [notLongL hlen]
    exact Bool.false_ne_true
  have hnew : List.foldl (fun x1 x2 => x1 ++ x2) #[] (List.replicate (if its.toArray.isEmpty = true then 0 else k.toNat) its.toArray) = (List.replicate k.toNat its).flatten.toArray := by
    have f0 : ∀ m : Nat, List.foldl (fun x1 x2 => x1 ++ x2) #[] (List.replicate m its.toArray) = (List.replicate m its).flatten.toArray := fun m => by
      have := foldl_rep its m []
      rw [List.nil_append] at this
      exact this
    rw [f0]
    cases its with
    | nil => simp
    | cons a r' => rw [if_neg (by simp)]
  refine wpAny_binaryOp_repeat_ref (T := "list") (U := "int") (by decide) ⟨_, e, rfl⟩ (fun s' => typeIs_int s' k t) noFill_list_mul F.fills_int_mul F.slot_int_rmul repeat_list F.slot_int_index.lookup
    (call_meets F.slot_int_rmul (typeIs_int s k t) F.entry_int_rmul (F.args_int_rmul_2 _ _) (int___rmul___int_list k t l its.toArray n)
      ⟨e, rfl, ⟨_, e, rfl⟩, call_meets F.slot_list_mul ⟨_, e, rfl⟩ F.entry_list_mul (F.args_list_mul_2 _ _) (AutoListH.list___mul___list_int_3 l its.toArray n k t hfit hcap hlong) ⟨e, ?_⟩⟩)
  rw [hnew]
  exact ⟨.ref _, _, I.lnew (t' := s.toks) (r.rep k.toNat) (by rw [PyProof.Rows.lm_len_rep_flat, Nat.mul_comm]; exact hz), rfl, q _ I.fresh⟩
def strRep (x : Str) (n : Nat) : Str := ⟨(List.replicate n x.cps).foldl (· ++ ·) #[]⟩
theorem op_repS : OpR X (binaryOp .Mult) (fun x y H Q => ∃ z k, x = .str z ∧ y = .int k ∧ -(2 ^ 63) ≤ k ∧ k < 2 ^ 63 ∧ z.length * k.toNat ≤ 16777216 ∧ Q (.str (strRep z k.toNat)) H) := by
  intro pins s σ H x y v u Q I rx ry h
  obtain ⟨z, k, rfl, rfl, h1, h2, hz, q⟩ := h
  obtain ⟨t, rfl⟩ := rx
  obtain ⟨t', rfl⟩ := ry
  have fl : ∀ (m : Nat) (acc : Array Nat), (List.replicate m z.cps).foldl (· ++ ·) acc = acc ++ (List.replicate m z.cps).foldl (· ++ ·) #[] := by
    intro m
    induction m with
    | zero => intro acc; simp
    | succ m ih =>
      intro acc
      rw [List.replicate_succ, List.foldl_cons, List.foldl_cons, ih, ih (#[] ++ z.cps)]
      simp
  have hsz : ∀ m : Nat, ((List.replicate m z.cps).foldl (· ++ ·) #[]).size = m * z.cps.size := by
    intro m
    induction m with
    | zero => simp
    | succ m ih => rw [List.replicate_succ, List.foldl_cons, fl, Array.size_append, ih]; simp [Nat.succ_mul, Nat.add_comm]
  have hzl : z.length = z.cps.size := rfl
  refine PySem.P.mul_str (by rw [decide_eq_false (by omega), decide_eq_false (by omega)]; rfl) (fun h3 h4 => ?_) (fun h3 h4 => ?_) ?_
  · intro h5
    have h4' : ¬ z.length = 0 := fun e => by rw [e] at h4; simp at h4
    have : (z.length : Int) * k ≤ 16777216 := by
      have : ((z.length * k.toNat : Nat) : Int) ≤ 16777216 := by omega
      rw [Int.natCast_mul, Int.toNat_of_nonneg (by omega)] at this
      exact this
    have h6 : (2 ^ 63 - 1 : Int) / k ≥ 16777216 := by
      have hk : k ≤ 16777216 := by
        have : 1 * k ≤ (z.length : Int) * k := Int.mul_le_mul_of_nonneg_right (by omega) (by omega)
        omega
      rw [ge_iff_le, Int.le_ediv_iff_mul_le (by omega)]
      omega
    have h7 : (z.length : Int) ≤ 16777216 := by
      have : (z.length : Int) * 1 ≤ (z.length : Int) * k := Int.mul_le_mul_of_nonneg_left (by omega) (by omega)
      omega
    omega
  · unfold Builtin.Str.tooLong
    rw [sizeLine_eq]
    exact decide_eq_false (by omega)
  · by_cases c1 : k < 1
    · rw [if_pos c1]
      have e0 : k.toNat = 0 := by omega
      rw [e0] at q
      exact ⟨by decide, .str _, H, I.tok _, ⟨_, rfl⟩, q⟩
    · rw [if_neg c1]
      by_cases c2 : (k == 1 || z.length == 0) = true
      · rw [if_pos c2]
        have e1 : strRep z k.toNat = z := by
          unfold strRep
          rcases Bool.or_eq_true_iff.mp c2 with e | e
          · have : k = 1 := by simpa using e
            subst this
            obtain ⟨c⟩ := z
            simp
          · have e2 : z.length = 0 := by simpa using e
            have e' : z.cps.size = 0 := e2
            have : z.cps = #[] := Array.eq_empty_of_size_eq_zero e'
            obtain ⟨c⟩ := z
            simp only at this
            subst this
            congr 1
            apply Array.eq_empty_of_size_eq_zero
            rw [hsz]
            simp
        rw [e1] at q
        exact ⟨.str z, H, I, ⟨t, rfl⟩, q⟩
      · rw [if_neg c2]
        refine ⟨?_, .str (strRep z k.toNat), H, I.tok _, ⟨_, rfl⟩, q⟩
        show ((List.replicate k.toNat z.cps).foldl (· ++ ·) #[]).size ≤ sizeLine
        rw [hsz, sizeLine_eq, Nat.mul_comm]
        exact hz
def mulO : MOp := fun x y h => match x, y with
  | .int i, .int j => if MulOk i j then .ok (.int (i * j)) h else .stuck
  | .tup xs, .int k => if -(2 ^ 63) ≤ k ∧ k < 2 ^ 63 ∧ xs.length * k.toNat ≤ 16777216 then .ok (.tup (List.replicate k.toNat xs).flatten) h else .stuck
  | .str z, .int k => if -(2 ^ 63) ≤ k ∧ k < 2 ^ 63 ∧ z.length * k.toNat ≤ 16777216 then .ok (.str (strRep z k.toNat)) h else .stuck
  | x, .int k => match lsOf h x with
    | some xs => if -(2 ^ 63) ≤ k ∧ k < 2 ^ 63 ∧ xs.length * k.toNat ≤ 16777216 then .ok (.fl (List.replicate k.toNat xs).flatten) h else .stuck
    | none => .stuck
  | _, _ => .stuck
theorem nx_mul (x y h) : NoX (mulO x y h) := by
  unfold mulO
  split
  · exact nx_ite nx_ok nx_stuck
  · exact nx_ite nx_ok nx_stuck
  · exact nx_ite nx_ok nx_stuck
  · split
    · exact nx_ite nx_ok nx_stuck
    · exact nx_stuck
  · exact nx_stuck
theorem om_mul : OpM X (binaryOp .Mult) mulO := by
  rintro pins s σ H V1 V2 v u Q I r1 r2 ⟨γ, ι, h, x, y, sm, q1, q2, p⟩
  unfold mulO at p
  split at p
  · cases q1; cases q2
    split at p
    · rename_i hz
      exact op_mulM pins s σ H _ _ v u Q I r1 r2 ⟨_, _, rfl, rfl, hz, p.ok ⟨sm, .int _⟩⟩
    · exact p.elim
  · cases q2
    obtain ⟨a, vs, rfl, sa, ra⟩ := q1.tupS
    split at p
    · rename_i hz
      refine op_repTA pins s σ H _ _ v u Q I r1 r2 ⟨a, _, vs, rfl, rfl, sa, hz.1, hz.2.1, by rw [← ra.length]; exact hz.2.2, fun hk => ?_, fun _ _ q hq => ?_⟩
      · rename_i xs k
        have e : (List.replicate k.toNat xs).flatten = xs := by
          rcases hk with e | e
          · subst e; simp
          · subst e; cases ra; simp
        rw [e] at p
        exact p.ok ⟨sm, q1⟩
      · obtain ⟨e, r⟩ := sm.newTup hq (ra.rep _)
        exact p.okE e r
    · exact p.elim
  · cases q1; cases q2
    split at p
    · rename_i hz
      exact op_repS pins s σ H _ _ v u Q I r1 r2 ⟨_, _, rfl, rfl, hz.1, hz.2.1, hz.2.2, p.ok ⟨sm, .str _⟩⟩
    · exact p.elim
  · cases q2
    split at p
    · rename_i e1
      obtain ⟨a, vs, rfl, _, sa, ra⟩ := sm.ls q1 e1
      split at p
      · rename_i hz
        refine op_repL pins s σ H _ _ v u Q I r1 r2 ⟨a, _, vs, rfl, rfl, sa, hz.1, hz.2.1, line_le (by rw [← ra.length]; exact hz.2.2), fun q hq => ?_⟩
        obtain ⟨e, r⟩ := sm.newFl hq (ra.rep _)
        exact p.okE e r
      · exact p.elim
    · exact p.elim
  · exact p.elim
end
end ML

set_option maxRecDepth 100000
/-! ML6: subscripts, slices, built-in functions, list methods, what is walked. -/
namespace ML
open PySem PySem.Spec PyProof.Rows L2

section
variable {X : Cx} {W : WX} {pos : Pos}
/-! ### xs[i] -/
def ixO : MOp := fun x y h => match x, y with
  | .tup xs, .int i => match atI xs i with
    | some v => .ok v h
    | none => .stuck
  | .str z, .int i => if z.length ≤ LINE then match atI z.cps.toList i with
    | some c => .ok (.str ⟨#[c]⟩) h
    | none => .stuck else .stuck
  | x, .int i => match lsOf h x with
    | some xs => match atI xs i with
      | some v => .ok v h
      | none => .stuck
    | none => .stuck
  | _, _ => .stuck
theorem nx_ix (x y h) : NoX (ixO x y h) := by
  unfold ixO
  repeat' split
  all_goals first | exact nx_ok | exact nx_stuck
theorem VRs.atI {K mg γ ι H} {xs vs} {i : Int} {v : MV} (r : VRs K mg γ ι H xs vs) (e : L2.atI xs i = some v) : ∃ V, L2.atI vs i = some V ∧ VR K mg γ ι H v V := by
  unfold L2.atI at e ⊢
  obtain ⟨j, e1, e2⟩ := Option.bind_eq_some_iff.mp e
  obtain ⟨V, h1, h2⟩ := r.get e2
  exact ⟨V, by rw [← r.length, e1]; exact h1, h2⟩
theorem me_ix {a b : Expr} {ma mb : MEx} (ha : ME X W a ma) (hb : ME X W b mb) (hs : PlainIx b := by exact fun _ _ => rfl) : ME X W (.Subscript a b pos) (mOp ixO ma mb) :=
  peW (pe_ix ix_seq ha hb hs) fun σ H Q h => bin_of h fun γ ι h x y V1 V2 H s r1 r2 p => by
    unfold ixO at p
    split at p
    · split at p
      · rename_i e
        cases r2
        obtain ⟨a, vs, rfl, sa, ra⟩ := r1.tupS
        obtain ⟨V, e2, rv⟩ := ra.atI e
        exact .inr (.inl ⟨a, vs, _, V, rfl, rfl, sa, e2, p.ok ⟨s, rv⟩⟩)
      · exact p.elim
    · split at p
      · rename_i hz
        split at p
        · rename_i e
          cases r1; cases r2
          exact .inr (.inr ⟨_, _, _, rfl, rfl, line_le hz, e, p.ok ⟨s, .str _⟩⟩)
        · exact p.elim
      · exact p.elim
    · split at p
      · rename_i e1
        split at p
        · rename_i e
          cases r2
          obtain ⟨a, vs, rfl, sa, _, ra⟩ := s.ls r1 e1
          obtain ⟨V, e2, rv⟩ := ra.atI e
          exact .inl ⟨a, vs, _, V, rfl, rfl, sa, e2, p.ok ⟨s, rv⟩⟩
        · exact p.elim
      · exact p.elim
    · exact p.elim
/-! ### xs[i:j] -/
def cutM {α : Type} (xs : List α) (lo hi : Option Int) : List α := (xs.drop (HT.sIx xs.length 0 lo)).take (HT.sIx xs.length xs.length hi - HT.sIx xs.length 0 lo)
abbrev MPo := Loc → MH → MR (Option Int)
def rO (X : Cx) : Rel (Option Int) (Option Int) := fun γ _ ι H h x v => SimH X.K X.mg γ ι H h ∧ x = v
instance : RM (rO X) := ⟨fun _ _ r => r⟩
def MO_ (X : Cx) (W : WX) (e : Option Expr) (m : MPo) : Prop := PO X e (TM X W (rO X) m)
def poNone : MPo := fun _ h => .ok none h
def asI : MV → MH → MR (Option Int)
  | .int i, h => .ok (some i) h
  | _, _ => .stuck
def poSome (m : MEx) : MPo := fun l h => (m l h).bind asI
theorem poW {X : Cx} {e : Option Expr} {t t' : TO} (h : PO X e t) (w : ∀ σ H Q, t' σ H Q → t σ H Q) : PO X e t' := ⟨fun pins s σ H Q I q => h.run pins s σ H Q I (w σ H Q q)⟩
theorem mpo_none : MO_ X W none poNone := poW po_none fun σ H Q ⟨γ, ι, l, h, s, lr, p⟩ => p.ok ⟨s, rfl⟩
theorem mpo_some {e : Expr} {m : MEx} (he : ME X W e m) : MO_ X W (some e) (poSome m) := poW (po_some he) fun σ H Q ⟨γ, ι, l, h, s, lr, p⟩ => ⟨γ, ι, l, h, s, lr, p.seq (rel := rV X) fun ι1 x h1 b H1 e1 ⟨s1, r1⟩ p1 => by
  cases x with
  | int i => cases r1; exact ⟨i, rfl, p1.ok ⟨s1, rfl⟩⟩
  | _ => exact p1.elim⟩
/-- the part of a tuple, a text, a list (then a list that nobody changes) -/
def slO (x : MV) (lo hi : Option Int) (h : MH) : MR MV := match x with
  | .tup xs => .ok (.tup (cutM xs lo hi)) h
  | .str z => if z.length ≤ LINE then .ok (.str (cutS z lo hi)) h else .stuck
  | x => match lsOf h x with
    | some xs => .ok (.fl (cutM xs lo hi)) h
    | none => .stuck
def mSl (a : MEx) (lo hi : MPo) : MEx := fun l h => (a l h).bind fun x h1 => (lo l h1).bind fun i h2 => (hi l h2).bind fun j h3 => slO x i j h3
theorem VRs.cut {K mg γ ι H} {xs vs} (lo hi : Option Int) (r : VRs K mg γ ι H xs vs) : VRs K mg γ ι H (cutM xs lo hi) (cutV vs lo hi) := by
  unfold cutM cutV
  rw [← r.length]
  exact (r.drop _).take _
theorem cutM_all {α : Type} {xs : List α} {lo hi : Option Int} (h1 : HT.sIx xs.length 0 lo = 0) (h2 : HT.sIx xs.length xs.length hi = xs.length) : cutM xs lo hi = xs := by
  unfold cutM; rw [h1, h2]; simp
theorem sl_of {σ : L2.St} {e : Expr} {m : MEx} {mlo mhi : MPo} {lo hi : Option Expr} {H : Hp} {Q : VK} (r : V → Option Int → Option Int → Hp → VK → Prop) (h : TM X W (rV X) (mSl m mlo mhi) σ H Q)
    (hr : ∀ γ ι h x V i j H, SimH X.K X.mg γ ι H h → VR X.K X.mg γ ι H x V → Post X W (rV X) γ σ (slO x i j h) ι H Q → r V i j H Q) :
    tSl r (TM X W (rV X) m) (TM X W (rO X) mlo) (TM X W (rO X) mhi) σ H Q := by
  obtain ⟨γ, ι, l, h, s, lr, p⟩ := h
  refine ⟨γ, ι, l, h, s, lr, p.seq (rel := rV X) fun ι1 x h1 V H1 e1 ⟨s1, r1⟩ p1 => ?_⟩
  refine ⟨γ, ι1, l, h1, s1, lr.mono (e1.grow s), p1.seq (rel := rO X) fun ι2 i h2 i' H2 e2 ⟨s2, r2⟩ p2 => ?_⟩
  cases r2
  refine ⟨γ, ι2, l, h2, s2, (lr.mono (e1.grow s)).mono (e2.grow s1), p2.seq (rel := rO X) fun ι3 j h3 j' H3 e3 ⟨s3, r3⟩ p3 => ?_⟩
  cases r3
  exact hr γ ι3 h3 x V i j H3 s3 ((r1.mono (e2.grow s1)).mono (e3.grow s2)) p3
theorem me_sl {a : Expr} {lo hi : Option Expr} {m : MEx} {mlo mhi : MPo} {p2 : Pos} (ha : ME X W a m) (hl : MO_ X W lo mlo) (hh : MO_ X W hi mhi) : ME X W (.Subscript a (.Slice lo hi none p2) pos) (mSl m mlo mhi) :=
  peW (pe_slice (r := fun x lo hi H Q => (rSlA X.K x lo hi H Q ∨ (∃ a xs, x = .ref a ∧ SqL X.K H a xs ∧ ∀ p, H p = none → Q (.ref p) (upd H p (.lst (cutV xs lo hi))))) ∨ rSlS x lo hi H Q) ((sl_tupA.or sl_list).or sl_str) ha hl hh) fun σ H Q h => sl_of (e := a) (lo := lo) (hi := hi) _ h fun γ ι h x V i j H s r1 p => by
    unfold slO at p
    split at p
    · obtain ⟨b, vs, rfl, sa, ra⟩ := r1.tupS
      refine .inl (.inl ⟨b, vs, rfl, sa, fun hw => ?_, fun _ q hq => ?_⟩)
      · rw [← ra.length] at hw
        rw [cutM_all hw.1 hw.2] at p
        exact p.ok ⟨s, r1⟩
      · obtain ⟨e, r⟩ := s.newTup hq (ra.cut i j)
        exact p.okE e r
    · split at p
      · rename_i hz
        cases r1
        exact .inr ⟨_, rfl, line_le hz, p.ok ⟨s, .str _⟩⟩
      · exact p.elim
    · split at p
      · rename_i e1
        obtain ⟨b, vs, rfl, sa, _, ra⟩ := s.ls r1 e1
        refine .inl (.inr ⟨b, vs, rfl, sa, fun q hq => ?_⟩)
        obtain ⟨e, r⟩ := s.newFl hq (ra.cut i j)
        exact p.okE e r
      · exact p.elim
/-- a list's part as a fresh list -/
def slL (x : MV) (lo hi : Option Int) (h : MH) : MR (List MV) := match lsOf h x with
  | some xs => .ok (cutM xs lo hi) h
  | none => .stuck
def mSlL (a : MEx) (lo hi : MPo) : MLx := fun l h => (a l h).bind fun x h1 => (lo l h1).bind fun i h2 => (hi l h2).bind fun j h3 => slL x i j h3
theorem ml_sl {a : Expr} {lo hi : Option Expr} {m : MEx} {mlo mhi : MPo} {p2 : Pos} (ha : ME X W a m) (hl : MO_ X W lo mlo) (hh : MO_ X W hi mhi) : MLs X W (.Subscript a (.Slice lo hi none p2) pos) (mSlL m mlo mhi) := by
  refine peW (pe_slice sl_list ha hl hh) fun σ H Q ⟨γ, ι, l, h, s, lr, p⟩ => ?_
  refine ⟨γ, ι, l, h, s, lr, p.seq (rel := rV X) fun ι1 x h1 V H1 e1 ⟨s1, r1⟩ p1 => ?_⟩
  refine ⟨γ, ι1, l, h1, s1, lr.mono (e1.grow s), p1.seq (rel := rO X) fun ι2 i h2 i' H2 e2 ⟨s2, r2⟩ p2 => ?_⟩
  cases r2
  refine ⟨γ, ι2, l, h2, s2, (lr.mono (e1.grow s)).mono (e2.grow s1), p2.seq (rel := rO X) fun ι3 j h3 j' H3 e3 ⟨s3, r3⟩ p3 => ?_⟩
  cases r3
  unfold slL at p3
  split at p3
  · rename_i e1'
    obtain ⟨b, vs, rfl, sa, _, ra⟩ := s3.ls ((r1.mono (e2.grow s1)).mono (e3.grow s2)) e1'
    refine ⟨b, vs, rfl, sa, fun q hq => ?_⟩
    obtain ⟨e, r⟩ := s3.layL hq (ra.cut i j)
    exact p3.okE e r
  · exact p3.elim
/-! ### t[::-1] -/
theorem rev_pick (xs : Array Value) : ((List.range xs.size).filterMap fun (m : Nat) => xs[(((xs.size : Int) - 1) + (m : Int) * (-1)).toNat]?).toArray = xs.toList.reverse.toArray := by
  have e : (fun (m : Nat) => xs[(((xs.size : Int) - 1) + (m : Int) * (-1)).toNat]?) = (fun i => xs[i]?) ∘ fun k => xs.size - 1 - k := by
    funext m
    have e1 : (((xs.size : Int) - 1) + (m : Int) * (-1)).toNat = xs.size - 1 - m := by omega
    rw [e1]; rfl
  rw [e, ← List.filterMap_map, PySem.W.krv_range, List.filterMap_reverse, PySem.W.krv_all]
theorem getItem_tuple_rev {prog : Program} {w : World} {A : Around} {E : Value → Shared → Prop} {s : Shared} {t sl : Addr} {items : Array Value} {u : Tok} {Q : Value → Shared → Prop} (ht : IsTup s.heap t items) (hs : s.heap.IsSliceOf sl .none .none (.int (-1) u))
    (h : Q (.ref s.heap.objs.size) { s with heap := s.heap.push { cls := .type "tuple", data := .seq items.toList.reverse.toArray } })
    (hsz : items.size ≤ sizeLine) : wpAny (model prog w) A (getItem (.ref t) (.ref sl)) Q E s := by
  have htake : sizeOk (.seq items.toList.reverse.toArray) := by
    show items.toList.reverse.toArray.size ≤ sizeLine
    rw [List.size_toArray, List.length_reverse, Array.length_toList]
    omega
  obtain ⟨os, hos, hcs, hds⟩ := id hs
  have hTs : s.TypeIs (.ref sl) "slice" := ⟨os, hos, hcs⟩
  unfold getItem
  try with_reducible refine wpAny_holding ?_
  first | refine wpAny_bind (wpAny_pure ?_) | skip
  refine wpAny_bind (wpAny_sequenceKey ht.typeIs (by decide) ?_)
  refine wpAny_bind (wpAny_callSpecial?_slot (name := Str.ofString "__getitem__") ht.typeIs PyProof.Rows.slot_tuple_getitem
    (wpAny_call_entry PyProof.Rows.slot_tuple_getitem ht.typeIs entry_tuple_getitem ?_ (args_tuple_getitem _ _)))
  show wpAny _ _ (Builtin.Tuple.tupleItemsOf (.ref t) >>= _) _ _ s
  refine wpAny_bind (tupleItemsOf_ ht ?_)
  refine wpAny_bind (wpAny_typeOf hTs ?_)
  rw [if_pos (by decide)]
  refine wpAny_bind ?_
  have app : ∀ {A : Around} {E : Value → Shared → Prop} {Q : Int × Int × Nat → Shared → Prop}, Q (((items.size : Int) - 1), -1, items.size) s → wpAny (model prog w) A (Builtin.Slice.sliceApplied (.ref sl) (pure (items.size : Int))) Q E s := by
    intro A E Q h
    unfold Builtin.Slice.sliceApplied Builtin.Slice.sliceFields
    refine wpAny_bind (wpAny_bind (wpAny_field hos hds (x := .none) rfl (wpAny_bind (wpAny_field hos hds (x := .none) rfl (wpAny_bind (wpAny_field hos hds (x := .int (-1) u) rfl (wpAny_pure ?_)))))))
    refine wpAny_bind (PyProof.Rows.slicePart_int ?_)
    show wpAny _ _ (if ((-1 : Int) == 0) = true then _ else _) _ _ s
    rw [if_neg (by decide)]
    refine wpAny_bind (PyProof.Rows.slicePart_none (wpAny_bind (PyProof.Rows.slicePart_none (wpAny_bind (wpAny_pure ?_)))))
    have e1 : Builtin.Slice.sliceAdjust none none (-1) (items.size : Int) = ((items.size : Int) - 1, -1) := rfl
    show wpAny _ _ (match Builtin.Slice.sliceAdjust none none (-1) (items.size : Int) with | (lo, hi) => pure (lo, (-1 : Int), Builtin.Slice.slicePlaces lo hi (-1))) _ _ s
    rw [e1]
    have e2 : Builtin.Slice.slicePlaces ((items.size : Int) - 1) (-1) (-1) = items.size := by
      unfold Builtin.Slice.slicePlaces
      have h1 : ¬ ((-1 : Int) > 0) := by omega
      simp only [h1, if_false]
      by_cases h : (items.size : Int) - 1 > -1
      · rw [if_pos h]
        have e : ((items.size : Int) - 1 - -1 - 1) / (- -1) = (items.size : Int) - 1 := by
          rw [show (- -1 : Int) = 1 by decide, Int.ediv_one]; omega
        rw [e]; omega
      · rw [if_neg h]; omega
    show wpAny _ _ (pure ((items.size : Int) - 1, (-1 : Int), Builtin.Slice.slicePlaces ((items.size : Int) - 1) (-1) (-1))) _ _ s
    rw [e2]
    exact wpAny_pure h
  refine app ?_
  show wpAny _ _ (if (((items.size : Int) - 1) == 0 && (-1 : Int) == 1 && items.size == items.size) = true then _ else _) _ _ s
  have hno : ¬ ((((items.size : Int) - 1) == 0 && (-1 : Int) == 1 && items.size == items.size) = true) := by
    intro q
    rw [Bool.and_eq_true, Bool.and_eq_true] at q
    exact absurd (eq_of_beq q.1.2) (by decide)
  rw [if_neg hno, rev_pick]
  first
    | exact wpAny_bind (m := Builtin.Tuple.tupleExact _) (wpAny_newObj_type (wpAny_pure ⟨_, rfl, wpAny_pure h⟩) htake)
    | exact wpAny_bind (m := Builtin.Tuple.tupleExact _) (wpAny_newObj_type (wpAny_bind (wpAny_pure (wpAny_pure ⟨_, rfl, wpAny_pure h⟩))) htake)
    | exact wpAny_bind (wpAny_bind (m := Builtin.Tuple.tupleExact _) (wpAny_newObj_type (wpAny_pure (wpAny_pure ⟨_, rfl, wpAny_pure h⟩)) htake))
    | exact wpAny_bind (wpAny_bind (m := Builtin.Tuple.tupleExact _) (wpAny_newObj_type (wpAny_pure ⟨_, rfl, wpAny_pure h⟩) htake))
/-- e[::-1] of a tuple or a list -/
theorem pe_revA {e : Expr} {te : TE} {k : Nat} {p1 p2 p3 pos : Pos} (he : PE X e te) : PE X (.Subscript e (.Slice none none (some (.UnaryOp .USub (.Constant (.int 1) k p1) p2)) p3) pos)
    (fun σ H Q => te σ H fun x H1 => (∃ a xs, x = .ref a ∧ SqT X.K H1 a xs ∧ ∀ p, H1 p = none → Q (.ref p) (upd H1 p (.tup xs.reverse))) ∨ (∃ a xs, x = .ref a ∧ SqL X.K H1 a xs ∧ ∀ p, H1 p = none → Q (.ref p) (upd H1 p (.lst xs.reverse)))) := by
  refine ⟨fun pins s σ H Q I h => ?_⟩
  refine Subscript_ (thn (he.run pins s σ H _ I h) fun v s1 ⟨x, H1, I1, r1, q1⟩ => ?_)
  have hst : PO X (some (.UnaryOp .USub (.Constant (.int 1) k p1) p2)) (tPart (tUn (rU fun i => .int (-i)) (tC (.int 1)))) := po_some (pe_un un_neg pe_int)
  refine wpAny_Slice (thn (po_none.run pins s1 σ H1 (fun o H2 => o = none ∧ H2 = H1) I1 ⟨rfl, rfl⟩) fun vl s2 ⟨l, H2, I2, pl, el, e2⟩ => ?_)
  subst el e2
  refine thn (po_none.run pins s2 σ H2 (fun o H3 => o = none ∧ H3 = H2) I2 ⟨rfl, rfl⟩) fun vu s3 ⟨u, H3, I3, pu, eu, e3⟩ => ?_
  subst eu e3
  refine thn (hst.run pins s3 σ H3 (fun o H4 => o = some (-1) ∧ H4 = H3) I3 ⟨1, rfl, -1, rfl, rfl, rfl⟩) fun vs s4 ⟨o, H4, I4, ps, eo, e4⟩ => ?_
  subst eo e4
  cases pl; cases pu
  cases ps with
  | int i t =>
  have I5 : Inv X pins σ H4 { s4 with heap := s4.heap.push { cls := .type "slice", data := .fields #[.none, .none, .int (-1) t] } } := I4.kept (t' := s4.toks) fun b ob q => Heap.get?_push_of_some _ q
  rcases q1 with ⟨a, xs, ex, hx, q⟩ | ⟨a, xs, ex, hx, q⟩
  · subst ex
    cases r1
    obtain ⟨its, r, ht, hz⟩ := I5.tuple hx
    have hlen := r.length
    show wpAny (model X.prog X.w) X.A (subscriptTail e (.Slice none none (some (.UnaryOp .USub (.Constant (.int 1) k p1) p2)) p3) (.ref a) (.ref s4.heap.objs.size)) (EP X pins σ Q) X.xe { s4 with heap := s4.heap.push { cls := .type "slice", data := .fields #[.none, .none, .int (-1) t] } }
    refine tail_any (ops := [.ref a, .ref s4.heap.objs.size]) ht.typeIs (PyProof.Rows.slot_tuple_getitem.lookup) ?_ (by with_unfolding_all rfl)
    refine getItem_tuple_rev ht (Heap.IsSliceOf.new _ .none .none (.int (-1) t)) ?_ (by rw [List.size_toArray]; omega)
    refine ⟨.ref _, _, I5.laid (t' := s4.toks) (o := .tup xs.reverse) (fun b ob q => Heap.get?_push_of_some _ q) (Nat.le_refl _) ?_, rfl, q _ (I5.hok.fresh (Nat.le_refl _))⟩
    exact ⟨by rw [List.length_reverse]; exact hz, _, r.reverse, IsTup.new _ _⟩
  · subst ex
    cases r1
    obtain ⟨its, r, ht, hz⟩ := I5.list hx
    have hlen := r.length
    show wpAny (model X.prog X.w) X.A (subscriptTail e (.Slice none none (some (.UnaryOp .USub (.Constant (.int 1) k p1) p2)) p3) (.ref a) (.ref s4.heap.objs.size)) (EP X pins σ Q) X.xe { s4 with heap := s4.heap.push { cls := .type "slice", data := .fields #[.none, .none, .int (-1) t] } }
    refine tail_any (ops := [.ref a, .ref s4.heap.objs.size]) ht.isList.typeIs (PySem.slot_list_getitem.lookup) ?_ (by with_unfolding_all rfl)
    refine wpAny_getItem_list_slice ht.isList (Heap.IsSliceOf.new _ .none .none (.int (-1) t)) .none .none (.int (-1) t) (by decide) ?_ (by rw [List.size_toArray]; omega)
    rw [PySem.W.krv_pick]
    refine ⟨.ref _, _, I5.laid (t' := s4.toks) (o := .lst xs.reverse) (fun b ob q => Heap.get?_push_of_some _ q) (Nat.le_refl _) ?_, rfl, q _ (I5.hok.fresh (Nat.le_refl _))⟩
    exact ⟨by rw [List.length_reverse]; exact hz, _, 0, r.reverse, Heap.get?_push_size _ rfl⟩
def revO (x : MV) (h : MH) : MR MV := match x with
  | .tup xs => .ok (.tup xs.reverse) h
  | x => match lsOf h x with
    | some xs => .ok (.fl xs.reverse) h
    | none => .stuck
def mRev (a : MEx) : MEx := fun l h => (a l h).bind revO
theorem me_rev {a : Expr} {m : MEx} {k : Nat} {p1 p2 p3 : Pos} (ha : ME X W a m) : ME X W (.Subscript a (.Slice none none (some (.UnaryOp .USub (.Constant (.int 1) k p1) p2)) p3) pos) (mRev m) :=
  peW (pe_revA ha) fun σ H Q ⟨γ, ι, l, h, s, lr, p⟩ => ⟨γ, ι, l, h, s, lr, p.seq (rel := rV X) fun ι1 x h1 V H1 e1 ⟨s1, r1⟩ p1 => by
    unfold revO at p1
    split at p1
    · obtain ⟨b, vs, rfl, sa, ra⟩ := r1.tupS
      refine .inl ⟨b, vs, rfl, sa, fun q hq => ?_⟩
      obtain ⟨e, r⟩ := s1.newTup hq ra.reverse
      exact p1.okE e r
    · split at p1
      · rename_i e1'
        obtain ⟨b, vs, rfl, sa, _, ra⟩ := s1.ls r1 e1'
        refine .inr ⟨b, vs, rfl, sa, fun q hq => ?_⟩
        obtain ⟨e, r⟩ := s1.newFl hq ra.reverse
        exact p1.okE e r
      · exact p1.elim⟩

/-! ### built-in functions -/
abbrev MCf := List MV → MH → MR MV
def CallM (X : Cx) (f : Value) (cf : MCf) : Prop :=
  CallR X f fun Vs H Q => ∃ γ ι h xs, SimH X.K X.mg γ ι H h ∧ VRs X.K X.mg γ ι H xs Vs ∧ Post X W0 (rV X) γ [] (cf xs h) ι H Q
def mCB (cf : MCf) (a : MLx) : MEx := fun l h => (a l h).bind cf
theorem cb_of {T : String} {e : Expr} {es : List Expr} {cf : MCf} {m : MLx} {σ : L2.St} {H : Hp} {Q : VK} (hn : ∀ xs h, NoX (cf xs h)) (h : TM X W (rV X) (mCB cf m) σ H Q) :
    tCB (fun Vs H Q => ∃ γ ι h xs, SimH X.K X.mg γ ι H h ∧ VRs X.K X.mg γ ι H xs Vs ∧ Post X W0 (rV X) γ [] (cf xs h) ι H Q) (TM X W (rVs X) m) σ H Q := by
  obtain ⟨γ, ι, l, h, s, lr, p⟩ := h
  exact ⟨γ, ι, l, h, s, lr, p.seq (rel := rVs X) fun ι1 x h1 V H1 e1 ⟨s1, r1⟩ p1 => ⟨γ, ι1, h1, x, s1, r1, p1.w0 (hn _ _)⟩⟩
theorem me_callB {x : Str} {p : Pos} {e : Expr} {es : List Expr} {cf : MCf} {m : MLx} {id : String} (hc : CallM X (.builtin id) cf) (hn : ∀ xs h, NoX (cf xs h)) (hm : X.mg x = none) (hv : bootBuiltins x = some (.builtin id)) (ha : MA X W (e :: es) m) (hg : Gl X x := by rfl)
    (hn' : x ≠ "__name__" := by decide) (hdb : (x == ("__debug__" : Str)) = false := by decide) (he : starEach (e :: es) X.env = (false, eval e X.env) :: starEach es X.env := by rfl) (hpl : (backTo pos (starEach es X.env)).any (·.1) = false := by rfl) :
    ME X W (.Call (.Name x p) (e :: es) [] pos) (mCB cf m) :=
  peW (pe_callB hc hg hm hv ha hn' hdb he hpl) fun σ H Q h => cb_of (T := id) (e := e) (es := es) hn h
theorem me_callTy {x : Str} {p : Pos} {e : Expr} {es : List Expr} {cf : MCf} {m : MLx} {T : String} (hc : CallM X (.type T) cf) (hn : ∀ xs h, NoX (cf xs h)) (hm : X.mg x = none) (hv : bootBuiltins x = some (.type T)) (ha : MA X W (e :: es) m) (hg : Gl X x := by rfl)
    (hn' : x ≠ "__name__" := by decide) (hdb : (x == ("__debug__" : Str)) = false := by decide) (he : starEach (e :: es) X.env = (false, eval e X.env) :: starEach es X.env := by rfl) (hpl : (backTo pos (starEach es X.env)).any (·.1) = false := by rfl) :
    ME X W (.Call (.Name x p) (e :: es) [] pos) (mCB cf m) :=
  peW (pe_callTy hc hg hm hv ha hn' hdb he hpl) fun σ H Q h => cb_of (T := T) (e := e) (es := es) hn h
end
end ML

set_option maxRecDepth 100000
/-! ML7: the built-in functions by name, isinstance, list methods, stores, what is walked, keywords. -/
namespace ML
open PySem PySem.Spec PyProof.Rows L2

section
variable {X : Cx} {W : WX} {pos : Pos}
theorem VRs.c0 {K mg γ ι H Vs} (r : VRs K mg γ ι H [] Vs) : Vs = [] := by cases r; rfl
theorem VRs.c1 {K mg γ ι H x Vs} (r : VRs K mg γ ι H [x] Vs) : ∃ V, Vs = [V] ∧ VR K mg γ ι H x V := by
  cases r with
  | cons a b => cases b; exact ⟨_, rfl, a⟩
theorem VRs.c2 {K mg γ ι H x y Vs} (r : VRs K mg γ ι H [x, y] Vs) : ∃ V U, Vs = [V, U] ∧ VR K mg γ ι H x V ∧ VR K mg γ ι H y U := by
  cases r with
  | cons a b =>
    obtain ⟨U, e, b'⟩ := b.c1
    subst e
    exact ⟨_, _, rfl, a, b'⟩
/-! ### len, max, min, abs, int -/
def lenC : MCf := fun xs h => match xs with
  | [.tup ys] => .ok (.int ys.length) h
  | [.str z] => if z.length ≤ LINE then .ok (.int z.length) h else .stuck
  | [x] => match lsOf h x with
    | some ys => .ok (.int ys.length) h
    | none => .stuck
  | _ => .stuck
theorem nx_len (xs h) : NoX (lenC xs h) := by
  unfold lenC
  repeat' split
  all_goals first | exact nx_ok | exact nx_stuck
theorem cm_len : CallM X (.builtin "len") lenC := by
  rintro pins s σ H Vs us Q I r ⟨γ, ι, h, xs, sm, q, p⟩
  unfold lenC at p
  split at p
  · obtain ⟨V, rfl, q1⟩ := q.c1
    obtain ⟨a, vs, rfl, sa, ra⟩ := q1.tupS
    exact call_len pins s σ H _ us Q I r ⟨.ref a, vs.length, rfl, .inr ⟨vs, sa, rfl⟩, by rw [← ra.length]; exact p.ok ⟨sm, .int _⟩⟩
  · obtain ⟨V, rfl, q1⟩ := q.c1
    cases q1
    split at p
    · rename_i hz
      exact call_len pins s σ H _ us Q I r ⟨.str _, _, rfl, ⟨line_le hz, rfl⟩, p.ok ⟨sm, .int _⟩⟩
    · exact p.elim
  · split at p
    · rename_i e1
      obtain ⟨V, rfl, q1⟩ := q.c1
      obtain ⟨a, vs, rfl, sa, _, ra⟩ := sm.ls q1 e1
      exact call_len pins s σ H _ us Q I r ⟨.ref a, vs.length, rfl, .inl ⟨vs, sa, rfl⟩, by rw [← ra.length]; exact p.ok ⟨sm, .int _⟩⟩
    · exact p.elim
  · exact p.elim
def maxC : MCf := fun xs h => match xs with
  | [.int i, .int j] => .ok (.int (if j > i then j else i)) h
  | _ => .stuck
def minC : MCf := fun xs h => match xs with
  | [.int i, .int j] => .ok (.int (if j < i then j else i)) h
  | _ => .stuck
def absC : MCf := fun xs h => match xs with
  | [.int i] => .ok (.int (if i < 0 then -i else i)) h
  | _ => .stuck
def intC : MCf := fun xs h => match xs with
  | [.int i] => .ok (.int i) h
  | [.bl b] => .ok (.int (if b then 1 else 0)) h
  | _ => .stuck
theorem nx_max (xs h) : NoX (maxC xs h) := by unfold maxC; split; exact nx_ok; exact nx_stuck
theorem nx_min (xs h) : NoX (minC xs h) := by unfold minC; split; exact nx_ok; exact nx_stuck
theorem nx_abs (xs h) : NoX (absC xs h) := by unfold absC; split; exact nx_ok; exact nx_stuck
theorem nx_int (xs h) : NoX (intC xs h) := by unfold intC; split; exact nx_ok; exact nx_ok; exact nx_stuck
theorem cm_max (hc : X.calm = true) : CallM X (.builtin "max") maxC := by
  rintro pins s σ H Vs us Q I r ⟨γ, ι, h, xs, sm, q, p⟩
  unfold maxC at p
  split at p
  · obtain ⟨V, U, rfl, q1, q2⟩ := q.c2
    cases q1; cases q2
    exact call_max2 hc pins s σ H _ us Q I r ⟨_, _, rfl, p.ok ⟨sm, .int _⟩⟩
  · exact p.elim
theorem cm_min (hc : X.calm = true) : CallM X (.builtin "min") minC := by
  rintro pins s σ H Vs us Q I r ⟨γ, ι, h, xs, sm, q, p⟩
  unfold minC at p
  split at p
  · obtain ⟨V, U, rfl, q1, q2⟩ := q.c2
    cases q1; cases q2
    exact call_min2 hc pins s σ H _ us Q I r ⟨_, _, rfl, p.ok ⟨sm, .int _⟩⟩
  · exact p.elim
theorem cm_abs : CallM X (.builtin "abs") absC := by
  rintro pins s σ H Vs us Q I r ⟨γ, ι, h, xs, sm, q, p⟩
  unfold absC at p
  split at p
  · obtain ⟨V, rfl, q1⟩ := q.c1
    cases q1
    exact call_abs pins s σ H _ us Q I r ⟨_, rfl, p.ok ⟨sm, .int _⟩⟩
  · exact p.elim
theorem cm_int : CallM X (.type "int") intC := by
  rintro pins s σ H Vs us Q I r ⟨γ, ι, h, xs, sm, q, p⟩
  unfold intC at p
  split at p
  · obtain ⟨V, rfl, q1⟩ := q.c1
    cases q1
    exact call_int1 pins s σ H _ us Q I r (.inl ⟨_, rfl, p.ok ⟨sm, .int _⟩⟩)
  · obtain ⟨V, rfl, q1⟩ := q.c1
    cases q1
    exact call_int1 pins s σ H _ us Q I r (.inr ⟨_, rfl, p.ok ⟨sm, .int _⟩⟩)
  · exact p.elim
/-! ### all, any, sum, tuple, list -/
def blsOf : List MV → Option (List Bool)
  | [] => some []
  | .bl b :: xs => (blsOf xs).map (b :: ·)
  | _ => none
theorem blsOf_ok {K mg γ ι H} : ∀ {xs vs bs}, VRs K mg γ ι H xs vs → blsOf xs = some bs → vs = bs.map V.bl
  | _, _, _, .nil, e => by cases e; rfl
  | _, _, _, .cons (x := .bl b) a r, e => by
    unfold blsOf at e
    obtain ⟨bs, e1, rfl⟩ := Option.map_eq_some_iff.mp e
    cases a
    rw [blsOf_ok r e1]; rfl
  | _, _, _, .cons (x := .non) a r, e => by cases e
  | _, _, _, .cons (x := .int _) a r, e => by cases e
  | _, _, _, .cons (x := .str _) a r, e => by cases e
  | _, _, _, .cons (x := .tup _) a r, e => by cases e
  | _, _, _, .cons (x := .fl _) a r, e => by cases e
  | _, _, _, .cons (x := .ref _) a r, e => by cases e
  | _, _, _, .cons (x := .glo _) a r, e => by cases e
def intsOf : List MV → Option (List Int)
  | [] => some []
  | .int b :: xs => (intsOf xs).map (b :: ·)
  | _ => none
theorem intsOf_ok {K mg γ ι H} : ∀ {xs vs bs}, VRs K mg γ ι H xs vs → intsOf xs = some bs → vs = bs.map V.int
  | _, _, _, .nil, e => by cases e; rfl
  | _, _, _, .cons (x := .int b) a r, e => by
    unfold intsOf at e
    obtain ⟨bs, e1, rfl⟩ := Option.map_eq_some_iff.mp e
    cases a
    rw [intsOf_ok r e1]; rfl
  | _, _, _, .cons (x := .non) a r, e => by cases e
  | _, _, _, .cons (x := .bl _) a r, e => by cases e
  | _, _, _, .cons (x := .str _) a r, e => by cases e
  | _, _, _, .cons (x := .tup _) a r, e => by cases e
  | _, _, _, .cons (x := .fl _) a r, e => by cases e
  | _, _, _, .cons (x := .ref _) a r, e => by cases e
  | _, _, _, .cons (x := .glo _) a r, e => by cases e
def strsOf : List MV → Option (List Str)
  | [] => some []
  | .str b :: xs => (strsOf xs).map (b :: ·)
  | _ => none
theorem strsOf_ok {K mg γ ι H} : ∀ {xs vs bs}, VRs K mg γ ι H xs vs → strsOf xs = some bs → vs = bs.map V.str
  | _, _, _, .nil, e => by cases e; rfl
  | _, _, _, .cons (x := .str b) a r, e => by
    unfold strsOf at e
    obtain ⟨bs, e1, rfl⟩ := Option.map_eq_some_iff.mp e
    cases a
    rw [strsOf_ok r e1]; rfl
  | _, _, _, .cons (x := .non) a r, e => by cases e
  | _, _, _, .cons (x := .bl _) a r, e => by cases e
  | _, _, _, .cons (x := .int _) a r, e => by cases e
  | _, _, _, .cons (x := .tup _) a r, e => by cases e
  | _, _, _, .cons (x := .fl _) a r, e => by cases e
  | _, _, _, .cons (x := .ref _) a r, e => by cases e
  | _, _, _, .cons (x := .glo _) a r, e => by cases e
def allC : MCf := fun xs h => match xs with
  | [x] => match (lsOf h x).bind blsOf with
    | some bs => .ok (.bl (bs.all id)) h
    | none => .stuck
  | _ => .stuck
def anyC : MCf := fun xs h => match xs with
  | [x] => match (lsOf h x).bind blsOf with
    | some bs => .ok (.bl (bs.any id)) h
    | none => .stuck
  | _ => .stuck
def sumC : MCf := fun xs h => match xs with
  | [x] => match (lsOf h x).bind intsOf with
    | some bs => .ok (.int bs.sum) h
    | none => .stuck
  | _ => .stuck
def tupC : MCf := fun xs h => match xs with
  | [.tup ys] => .ok (.tup ys) h
  | [x] => match lsOf h x with
    | some ys => .ok (.tup ys) h
    | none => .stuck
  | _ => .stuck
def lstC : MCf := fun xs h => match xs with
  | [.tup ys] => .ok (.fl ys) h
  | [x] => match lsOf h x with
    | some ys => .ok (.fl ys) h
    | none => .stuck
  | _ => .stuck
theorem nx_all (xs h) : NoX (allC xs h) := by unfold allC; repeat' split
                                              all_goals first | exact nx_ok | exact nx_stuck
theorem nx_any (xs h) : NoX (anyC xs h) := by unfold anyC; repeat' split
                                              all_goals first | exact nx_ok | exact nx_stuck
theorem nx_sum (xs h) : NoX (sumC xs h) := by unfold sumC; repeat' split
                                              all_goals first | exact nx_ok | exact nx_stuck
theorem nx_tup (xs h) : NoX (tupC xs h) := by unfold tupC; repeat' split
                                              all_goals first | exact nx_ok | exact nx_stuck
theorem nx_lst (xs h) : NoX (lstC xs h) := by unfold lstC; repeat' split
                                              all_goals first | exact nx_ok | exact nx_stuck
theorem cm_all (hc : X.calm = true) : CallM X (.builtin "all") allC := by
  rintro pins s σ H Vs us Q I r ⟨γ, ι, h, xs, sm, q, p⟩
  unfold allC at p
  split at p
  · split at p
    · rename_i e
      obtain ⟨ys, e1, e2⟩ := Option.bind_eq_some_iff.mp e
      obtain ⟨V, rfl, q1⟩ := q.c1
      obtain ⟨a, vs, rfl, sa, _, ra⟩ := sm.ls q1 e1
      rw [blsOf_ok ra e2] at sa
      exact cr_all hc pins s σ H _ us Q I r ⟨a, _, rfl, sa, p.ok ⟨sm, .bl _⟩⟩
    · exact p.elim
  · exact p.elim
theorem cm_any (hc : X.calm = true) : CallM X (.builtin "any") anyC := by
  rintro pins s σ H Vs us Q I r ⟨γ, ι, h, xs, sm, q, p⟩
  unfold anyC at p
  split at p
  · split at p
    · rename_i e
      obtain ⟨ys, e1, e2⟩ := Option.bind_eq_some_iff.mp e
      obtain ⟨V, rfl, q1⟩ := q.c1
      obtain ⟨a, vs, rfl, sa, _, ra⟩ := sm.ls q1 e1
      rw [blsOf_ok ra e2] at sa
      exact cr_any hc pins s σ H _ us Q I r ⟨a, _, rfl, sa, p.ok ⟨sm, .bl _⟩⟩
    · exact p.elim
  · exact p.elim
theorem cm_sum (hc : X.calm = true) : CallM X (.builtin "sum") sumC := by
  rintro pins s σ H Vs us Q I r ⟨γ, ι, h, xs, sm, q, p⟩
  unfold sumC at p
  split at p
  · split at p
    · rename_i e
      obtain ⟨ys, e1, e2⟩ := Option.bind_eq_some_iff.mp e
      obtain ⟨V, rfl, q1⟩ := q.c1
      obtain ⟨a, vs, rfl, sa, _, ra⟩ := sm.ls q1 e1
      rw [intsOf_ok ra e2] at sa
      exact cr_sum hc pins s σ H _ us Q I r ⟨a, _, rfl, sa, p.ok ⟨sm, .int _⟩⟩
    · exact p.elim
  · exact p.elim
theorem cm_tup : CallM X (.type "tuple") tupC := by
  rintro pins s σ H Vs us Q I r ⟨γ, ι, h, xs, sm, q, p⟩
  unfold tupC at p
  split at p
  · obtain ⟨V, rfl, q1⟩ := q.c1
    obtain ⟨a, vs, rfl, sa, ra⟩ := q1.tupS
    exact call_tuple_of pins s σ H _ us Q I r ⟨a, vs, rfl, .inr ⟨sa, p.ok ⟨sm, q1⟩⟩⟩
  · split at p
    · rename_i e
      obtain ⟨V, rfl, q1⟩ := q.c1
      obtain ⟨a, vs, rfl, sa, _, ra⟩ := sm.ls q1 e
      refine call_tuple_of pins s σ H _ us Q I r ⟨a, vs, rfl, .inl ⟨sa, fun l hl => ?_⟩⟩
      obtain ⟨e, r⟩ := sm.newTup hl ra
      exact p.okE e r
    · exact p.elim
  · exact p.elim
theorem cm_lst : CallM X (.type "list") lstC := by
  rintro pins s σ H Vs us Q I r ⟨γ, ι, h, xs, sm, q, p⟩
  unfold lstC at p
  split at p
  · obtain ⟨V, rfl, q1⟩ := q.c1
    obtain ⟨a, vs, rfl, sa, ra⟩ := q1.tupS
    refine call_list_of pins s σ H _ us Q I r ⟨a, vs, rfl, .inr sa, fun l hl => ?_⟩
    obtain ⟨e, r⟩ := sm.newFl hl ra
    exact p.okE e r
  · split at p
    · rename_i e
      obtain ⟨V, rfl, q1⟩ := q.c1
      obtain ⟨a, vs, rfl, sa, _, ra⟩ := sm.ls q1 e
      refine call_list_of pins s σ H _ us Q I r ⟨a, vs, rfl, .inl sa, fun l hl => ?_⟩
      obtain ⟨e, r⟩ := sm.newFl hl ra
      exact p.okE e r
    · exact p.elim
  · exact p.elim
/-- list(x) as a fresh list -/
def lstL (xs : List MV) (h : MH) : MR (List MV) := match xs with
  | [.tup ys] => .ok ys h
  | [x] => match lsOf h x with
    | some ys => .ok ys h
    | none => .stuck
  | _ => .stuck
def mCL (cf : List MV → MH → MR (List MV)) (a : MLx) : MLx := fun l h => (a l h).bind cf
theorem ml_list {p : Pos} {e : Expr} {es : List Expr} {m : MLx} (hm : X.mg "list" = none) (ha : MA X W (e :: es) m) (hg : Gl X "list" := by rfl)
    (he : starEach (e :: es) X.env = (false, eval e X.env) :: starEach es X.env := by rfl) (hpl : (backTo pos (starEach es X.env)).any (·.1) = false := by rfl) :
    MLs X W (.Call (.Name "list" p) (e :: es) [] pos) (mCL lstL m) :=
  peW (pe_callTy call_list_of hg hm (by decide +kernel) ha (by decide) (by decide) he hpl) fun σ H Q ⟨γ, ι, l, h, s, lr, p⟩ => ⟨γ, ι, l, h, s, lr, p.seq (rel := rVs X) fun ι1 xs h1 Vs H1 e1 ⟨s1, r1⟩ p1 => by
    unfold lstL at p1
    split at p1
    · obtain ⟨V, rfl, q1⟩ := r1.c1
      obtain ⟨a, vs, rfl, sa, ra⟩ := q1.tupS
      refine ⟨a, vs, rfl, .inr sa, fun l hl => ?_⟩
      obtain ⟨e, r⟩ := s1.layL hl ra
      exact p1.okE e r
    · split at p1
      · rename_i e
        obtain ⟨V, rfl, q1⟩ := r1.c1
        obtain ⟨a, vs, rfl, sa, _, ra⟩ := s1.ls q1 e
        refine ⟨a, vs, rfl, .inl sa, fun l hl => ?_⟩
        obtain ⟨e, r⟩ := s1.layL hl ra
        exact p1.okE e r
      · exact p1.elim
    · exact p1.elim⟩

/-! ### isinstance -/
/-- a value's built-in type, by name -/
def tyN (h : MH) : MV → Option String
  | .non => some "NoneType"
  | .bl _ => some "bool"
  | .int _ => some "int"
  | .str _ => some "str"
  | .tup _ => some "tuple"
  | .fl _ => some "list"
  | .ref n => match h[n]? with
    | some (.lst _) => some "list"
    | some (.frz (.lst _)) => some "list"
    | some (.dK _) => some "dict"
    | some (.dT _) => some "dict"
    | some (.frz (.dK _)) => some "dict"
    | _ => none
  | .glo _ => none
theorem tyN_ok {h : MH} {γ ι : List Addr} {H : Hp} (s : SimH X.K X.mg γ ι H h) {x : MV} {V : L2.V} {T : String} (r : VR X.K X.mg γ ι H x V) (e : tyN h x = some T) : TyX X.K H V (.type T) := by
  cases r with
  | non => cases e; exact .base .non
  | bl b => cases e; exact .base (.bl b)
  | int b => cases e; exact .base (.int b)
  | str b => cases e; exact .base (.str b)
  | tup hp r =>
    cases e
    rcases hp with hp | hp
    · exact .base (.tup hp)
    · rcases hp H with hp | ⟨o, its, n, h1, h2, _⟩
      · rcases hp with hp | ⟨o, hp⟩
        · exact .base (.tup hp)
        · exact .fTuple hp
      · exact .kTuple h1 h2
  | fl hp _ _ r =>
    cases e
    rcases hp with hp | ⟨o, hp⟩
    · exact .base (.lst hp)
    · exact .base (.frz hp)
  | flK hp r =>
    cases e
    obtain ⟨its, n, e, _⟩ := hp
    exact .kList e rfl
  | @ref n a ea =>
    unfold tyN at e
    dsimp only at e
    split at e
    all_goals first
      | (rename_i q
         cases e
         obtain ⟨w, hw, c⟩ := s.cell q ea
         cases c with
         | lst r => exact .base (.lst hw))
      | (rename_i q
         cases e
         obtain ⟨w, hw, c⟩ := s.cell q ea
         cases c with
         | dK r => exact .base (.dK hw))
      | (rename_i q
         cases e
         obtain ⟨w, hw, c⟩ := s.cell q ea
         cases c with
         | dT r => exact .base (.dT hw))
      | (rename_i q
         cases e
         obtain ⟨w, hw, c⟩ := s.cell q ea
         cases c with
         | frz c =>
           cases c with
           | lst r => exact .base (.frz hw))
      | (rename_i q
         cases e
         obtain ⟨w, hw, c⟩ := s.cell q ea
         cases c with
         | frz c =>
           cases c with
           | dK r => exact .fDict hw)
      | cases e
  | glo q => cases e
def isiV (T : String) (x : MV) (h : MH) : MR MV := match (tyN h x).bind fun t => kitB t T with
  | some b => .ok (.bl b) h
  | none => .stuck
def mIsi (T : String) (a : MEx) : MEx := fun l h => (a l h).bind (isiV T)
/-- isinstance(e, T), T a built-in type by its name -/
theorem me_isi {T : String} {c : Str} {e : Expr} {m : MEx} {p p2 : Pos} (hm : X.mg "isinstance" = none) (hm2 : X.mg c = none) (hv2 : bootBuiltins c = some (.type T)) (ha : ME X W e m) (hg : Gl X "isinstance" := by rfl) (hg2 : Gl X c := by rfl)
    (hn2 : c ≠ "__name__" := by decide) (hd2 : (c == ("__debug__" : Str)) = false := by decide) (he : starEach [e, .Name c p2] X.env = (false, eval e X.env) :: starEach [.Name c p2] X.env := by rfl)
    (he2 : starEach [.Name c p2] X.env = (false, eval (.Name c p2) X.env) :: starEach [] X.env := by rfl) (hpl : (backTo pos (starEach [.Name c p2] X.env)).any (·.1) = false := by rfl) :
    ME X W (.Call (.Name "isinstance" p) [e, .Name c p2] [] pos) (mIsi T m) := by
  have pt : PE X (.Name c p2) (tC (.ty T)) := pe_bltn hg2 hm2 hv2 rfl hn2 hd2
  refine peW (pe_callB call_isi hg hm (by decide +kernel) (pa_cons ha (pa_cons pt pa_nil he2) he) (by decide) (by decide) he hpl) fun σ H Q ⟨γ, ι, l, h, s, lr, p⟩ => ⟨γ, ι, l, h, s, lr, p.seq (rel := rV X) fun ι1 x h1 V H1 e1 ⟨s1, r1⟩ p1 => ?_⟩
  unfold isiV at p1
  split at p1
  · rename_i b eb
    obtain ⟨t, e2, e3⟩ := Option.bind_eq_some_iff.mp eb
    exact ⟨V, .ty T, .type t, .type T, b, rfl, .ty T, tyN_ok s1 r1 e2, kit_ty e3, p1.ok ⟨s1, .bl _⟩⟩
  · exact p1.elim
@[simp] theorem kb_int_int : kitB "int" "int" = some true := by decide +kernel
@[simp] theorem kb_int_bool : kitB "int" "bool" = some false := by decide +kernel
@[simp] theorem kb_int_str : kitB "int" "str" = some false := by decide +kernel
@[simp] theorem kb_int_tuple : kitB "int" "tuple" = some false := by decide +kernel
@[simp] theorem kb_int_list : kitB "int" "list" = some false := by decide +kernel
@[simp] theorem kb_int_dict : kitB "int" "dict" = some false := by decide +kernel
@[simp] theorem kb_bool_int : kitB "bool" "int" = some true := by decide +kernel
@[simp] theorem kb_bool_bool : kitB "bool" "bool" = some true := by decide +kernel
@[simp] theorem kb_bool_str : kitB "bool" "str" = some false := by decide +kernel
@[simp] theorem kb_bool_tuple : kitB "bool" "tuple" = some false := by decide +kernel
@[simp] theorem kb_bool_list : kitB "bool" "list" = some false := by decide +kernel
@[simp] theorem kb_bool_dict : kitB "bool" "dict" = some false := by decide +kernel
@[simp] theorem kb_str_int : kitB "str" "int" = some false := by decide +kernel
@[simp] theorem kb_str_bool : kitB "str" "bool" = some false := by decide +kernel
@[simp] theorem kb_str_str : kitB "str" "str" = some true := by decide +kernel
@[simp] theorem kb_str_tuple : kitB "str" "tuple" = some false := by decide +kernel
@[simp] theorem kb_str_list : kitB "str" "list" = some false := by decide +kernel
@[simp] theorem kb_str_dict : kitB "str" "dict" = some false := by decide +kernel
@[simp] theorem kb_tuple_int : kitB "tuple" "int" = some false := by decide +kernel
@[simp] theorem kb_tuple_bool : kitB "tuple" "bool" = some false := by decide +kernel
@[simp] theorem kb_tuple_str : kitB "tuple" "str" = some false := by decide +kernel
@[simp] theorem kb_tuple_tuple : kitB "tuple" "tuple" = some true := by decide +kernel
@[simp] theorem kb_tuple_list : kitB "tuple" "list" = some false := by decide +kernel
@[simp] theorem kb_tuple_dict : kitB "tuple" "dict" = some false := by decide +kernel
@[simp] theorem kb_list_int : kitB "list" "int" = some false := by decide +kernel
@[simp] theorem kb_list_bool : kitB "list" "bool" = some false := by decide +kernel
@[simp] theorem kb_list_str : kitB "list" "str" = some false := by decide +kernel
@[simp] theorem kb_list_tuple : kitB "list" "tuple" = some false := by decide +kernel
@[simp] theorem kb_list_list : kitB "list" "list" = some true := by decide +kernel
@[simp] theorem kb_list_dict : kitB "list" "dict" = some false := by decide +kernel
@[simp] theorem kb_dict_int : kitB "dict" "int" = some false := by decide +kernel
@[simp] theorem kb_dict_bool : kitB "dict" "bool" = some false := by decide +kernel
@[simp] theorem kb_dict_str : kitB "dict" "str" = some false := by decide +kernel
@[simp] theorem kb_dict_tuple : kitB "dict" "tuple" = some false := by decide +kernel
@[simp] theorem kb_dict_list : kitB "dict" "list" = some false := by decide +kernel
@[simp] theorem kb_dict_dict : kitB "dict" "dict" = some true := by decide +kernel
@[simp] theorem kb_none_int : kitB "NoneType" "int" = some false := by decide +kernel
@[simp] theorem kb_none_bool : kitB "NoneType" "bool" = some false := by decide +kernel
@[simp] theorem kb_none_str : kitB "NoneType" "str" = some false := by decide +kernel
@[simp] theorem kb_none_tuple : kitB "NoneType" "tuple" = some false := by decide +kernel
@[simp] theorem kb_none_list : kitB "NoneType" "list" = some false := by decide +kernel
@[simp] theorem kb_none_dict : kitB "NoneType" "dict" = some false := by decide +kernel

/-! ### list methods -/
/-- a method of the list in a cell: what it gives, what the list is then -/
def mtL (n : Nat) (h : MH) (k : List MV → MR MV) : MR MV := match h[n]? with
  | some (.lst xs) => k xs
  | _ => .stuck
def appO (x v : MV) (h : MH) : MR MV := match x with
  | .ref n => match h[n]? with
    | some (.lst xs) => if xs.length < LINE then .ok .non (h.set n (.lst (xs ++ [v]))) else .stuck
    | _ => .stuck
  | _ => .stuck
def mMeth2 (f : MV → MV → MH → MR MV) (a b : MEx) : MEx := fun l h => (a l h).bind fun x h1 => (b l h1).bind fun y h2 => f x y h2
def mMeth1 (f : MV → MH → MR MV) (a : MEx) : MEx := fun l h => (a l h).bind fun x h1 => f x h1
/-- the list in a cell -/
theorem SimH.lst {h : MH} {γ ι : List Addr} {H : Hp} (s : SimH X.K X.mg γ ι H h) {n : Nat} {xs : List MV} {V : L2.V} (r : VR X.K X.mg γ ι H (.ref n) V) (e : h[n]? = some (.lst xs)) : ∃ a vs, V = .ref a ∧ ι[n]? = some a ∧ H a = some (.lst vs) ∧ VRs X.K X.mg γ ι H xs vs := by
  cases r with
  | ref ea =>
    obtain ⟨w, hw, c⟩ := s.cell e ea
    cases c with
    | lst r => exact ⟨_, _, rfl, ea, hw, r⟩
/-- the list at x is a cell's -/
def isCell (h : MH) (x : MV) : Bool := match x with
  | .ref n => match h[n]? with
    | some (.lst _) => true
    | _ => false
  | _ => false
theorem SimH.ty_list {h : MH} {γ ι : List Addr} {H : Hp} (s : SimH X.K X.mg γ ι H h) {x : MV} {V : L2.V} (r : VR X.K X.mg γ ι H x V) (e : isCell h x = true) : tyV X.K "list" V H := by
  unfold isCell at e
  split at e
  · split at e
    · rename_i q
      obtain ⟨a, vs, rfl, _, hw, _⟩ := s.lst r q
      exact Or.inl ⟨rfl, _, Or.inl (Or.inl hw)⟩
    · cases e
  · cases e
/-- o.m(e), a method of a built-in type: what it does to the mini heap -/
def mM1 (chk : MH → MV → Bool) (f : MOp) (a b : MEx) : MEx := fun l h => (a l h).bind fun x h1 => if chk h1 x then (b l h1).bind fun y h2 => f x y h2 else .stuck
def mM0 (chk : MH → MV → Bool) (f : MV → MH → MR MV) (a : MEx) : MEx := fun l h => (a l h).bind fun x h1 => if chk h1 x then f x h1 else .stuck
theorem me_m1 {T id : String} {name : Str} {r : V → List V → Hp → VK → Prop} {chk : MH → MV → Bool} {f : MOp} {a e : Expr} {ma mb : MEx} {apos : Pos} (pa : PlainAttrs T) (slot : Slot T name id) (hty : typeOf (.builtin id) = pure (.type "method_descriptor")) (hm : MtR X id r)
    (ck : ∀ γ ι H h x V, SimH X.K X.mg γ ι H h → VR X.K X.mg γ ι H x V → chk h x = true → tyV X.K T V H)
    (sim : ∀ (W : WX) σ γ ι H h x V y U Q, SimH X.K X.mg γ ι H h → VR X.K X.mg γ ι H x V → VR X.K X.mg γ ι H y U → Post X W (rV X) γ σ (f x y h) ι H Q → r V [U] H Q)
    (ha : ME X W a ma) (he : ME X W e mb)
    (hbase : attributeBase a name X.env (eval a X.env) = eval a X.env)
    (hfew : ((backTo pos (starEach [e] X.env)).all (fun x => !x.1) && (backToKw pos (keywordEach [] X.env)).all (fun x => x.1.isSome)
      && decide (([e] : List Expr).length + ([] : List Keyword).length + (if ([] : List Keyword).isEmpty then 0 else 1) < 30)) = true)
    (hline : (apos.endLine == pos.line) = true) (hst : starEach [e] X.env = (false, eval e X.env) :: starEach [] X.env) (hplain : (backTo pos (starEach [] X.env)).any (·.1) = false) :
    ME X W (.Call (.Attribute a name apos) [e] [] pos) (mM1 chk f ma mb) := by
  refine peW (pe_bm pa slot hty hm ha (pa_cons he pa_nil hst) hbase hfew hline hst hplain) fun σ H Q ⟨γ, ι, l, h, s, lr, p⟩ => ⟨γ, ι, l, h, s, lr, p.seq (rel := rV X) fun ι1 x h1 V H1 e1 ⟨s1, r1⟩ p1 => ?_⟩
  split at p1
  · rename_i hc
    exact ⟨ck _ _ _ _ _ _ s1 r1 hc, γ, ι1, l, h1, s1, lr.mono (e1.grow s), p1.seq (rel := rV X) fun ι2 y h2 U H2 e2 ⟨s2, r2⟩ p2 => sim W σ γ ι2 H2 h2 x V y U Q s2 (r1.mono (e2.grow s1)) r2 p2⟩
  · exact p1.elim
theorem me_m0 {T id : String} {name : Str} {r : V → List V → Hp → VK → Prop} {chk : MH → MV → Bool} {f : MV → MH → MR MV} {a : Expr} {ma : MEx} {apos : Pos} (pa : PlainAttrs T) (slot : Slot T name id) (hty : typeOf (.builtin id) = pure (.type "method_descriptor")) (hm : MtR X id r)
    (ck : ∀ γ ι H h x V, SimH X.K X.mg γ ι H h → VR X.K X.mg γ ι H x V → chk h x = true → tyV X.K T V H)
    (sim : ∀ (W : WX) σ γ ι H h x V Q, SimH X.K X.mg γ ι H h → VR X.K X.mg γ ι H x V → Post X W (rV X) γ σ (f x h) ι H Q → r V [] H Q)
    (ha : ME X W a ma) (hbase : attributeBase a name X.env (eval a X.env) = eval a X.env) (hline : (apos.endLine == pos.line) = true) :
    ME X W (.Call (.Attribute a name apos) [] [] pos) (mM0 chk f ma) := by
  refine peW (pe_bm0 pa slot hty hm ha hbase hline) fun σ H Q ⟨γ, ι, l, h, s, lr, p⟩ => ⟨γ, ι, l, h, s, lr, p.seq (rel := rV X) fun ι1 x h1 V H1 e1 ⟨s1, r1⟩ p1 => ?_⟩
  split at p1
  · rename_i hc
    exact ⟨ck _ _ _ _ _ _ s1 r1 hc, sim W σ γ ι1 H1 h1 x V Q s1 r1 p1⟩
  · exact p1.elim
def popO (x : MV) (h : MH) : MR MV := match x with
  | .ref n => match h[n]? with
    | some (.lst xs) => match xs[xs.length - 1]? with
      | some v => .ok v (h.set n (.lst xs.dropLast))
      | none => .stuck
    | _ => .stuck
  | _ => .stuck
def popAtO : MOp := fun x y h => match x, y with
  | .ref n, .int i => match h[n]? with
    | some (.lst xs) => if -(2 ^ 63) ≤ i ∧ i < 2 ^ 63 then match seqIndex? i xs.length with
      | some k => match xs[k]? with
        | some v => .ok v (h.set n (.lst (xs.eraseIdx k)))
        | none => .stuck
      | none => .stuck else .stuck
    | _ => .stuck
  | _, _ => .stuck
def extO : MOp := fun x y h => match x with
  | .ref n => match h[n]? with
    | some (.lst xs) => match lsOf h y with
      | some ys => if xs.length + ys.length ≤ LINE then .ok .non (h.set n (.lst (xs ++ ys))) else .stuck
      | none => .stuck
    | _ => .stuck
  | _ => .stuck
def revMO (x : MV) (h : MH) : MR MV := match x with
  | .ref n => match h[n]? with
    | some (.lst xs) => .ok .non (h.set n (.lst xs.reverse))
    | _ => .stuck
  | _ => .stuck
theorem sim_append (W : WX) σ γ ι H h x V y U Q (s : SimH X.K X.mg γ ι H h) (r1 : VR X.K X.mg γ ι H x V) (r2 : VR X.K X.mg γ ι H y U) (p : Post X W (rV X) γ σ (appO x y h) ι H Q) : rAppend V [U] H Q := by
  unfold appO at p
  split at p
  · split at p
    · rename_i q
      split at p
      · rename_i hz
        obtain ⟨b, vs, rfl, eb, hw, ra⟩ := s.lst r1 q
        refine ⟨b, vs, U, rfl, rfl, hw, by rw [← ra.length, sizeLine_eq]; exact hz, ?_⟩
        obtain ⟨s3, e3⟩ := s.put (w := .lst (vs ++ [U])) eb (.lst (ra.append (.one r2)))
        have e3 := e3 (fun o w z => by simp_all)
        exact p.okE e3 ⟨s3, .non⟩
      · exact p.elim
    · exact p.elim
  · exact p.elim
theorem sim_pop (W : WX) σ γ ι H h x V Q (s : SimH X.K X.mg γ ι H h) (r1 : VR X.K X.mg γ ι H x V) (p : Post X W (rV X) γ σ (popO x h) ι H Q) : rPop V [] H Q := by
  unfold popO at p
  split at p
  · split at p
    · rename_i q
      split at p
      · rename_i v hv
        obtain ⟨b, vs, rfl, eb, hw, ra⟩ := s.lst r1 q
        rw [ra.length] at hv
        obtain ⟨U, hU, rU⟩ := ra.get hv
        obtain ⟨s3, e3⟩ := s.put (w := .lst vs.dropLast) eb (.lst ra.dropLast)
        have e3 := e3 (fun o w z => by simp_all)
        exact ⟨b, vs, U, rfl, rfl, hw, hU, p.okE e3 ⟨s3, rU.mono (e3.grow s)⟩⟩
      · exact p.elim
    · exact p.elim
  · exact p.elim
theorem sim_popAt (W : WX) σ γ ι H h x V y U Q (s : SimH X.K X.mg γ ι H h) (r1 : VR X.K X.mg γ ι H x V) (r2 : VR X.K X.mg γ ι H y U) (p : Post X W (rV X) γ σ (popAtO x y h) ι H Q) : rPopAt V [U] H Q := by
  unfold popAtO at p
  split at p
  · split at p
    · rename_i q
      split at p
      · rename_i hz
        split at p
        · rename_i k hk
          split at p
          · rename_i v hv
            cases r2
            obtain ⟨b, vs, rfl, eb, hw, ra⟩ := s.lst r1 q
            rw [ra.length] at hk
            obtain ⟨U, hU, rU⟩ := ra.get hv
            obtain ⟨s3, e3⟩ := s.put (w := .lst (vs.eraseIdx k)) eb (.lst (ra.eraseIdx k))
            have e3 := e3 (fun o w z => by simp_all)
            exact ⟨b, vs, _, k, U, rfl, rfl, hw, hz.1, hz.2, hk, hU, p.okE e3 ⟨s3, rU.mono (e3.grow s)⟩⟩
          · exact p.elim
        · exact p.elim
      · exact p.elim
    · exact p.elim
  · exact p.elim
theorem mt_extendR : MtM X "list.extend" (fun x vs H Q => ∃ l b xs zs, x = .ref l ∧ vs = [.ref b] ∧ H l = some (.lst xs) ∧ RdL X.K H b zs ∧ xs.length + zs.length ≤ sizeLine ∧ Q .non (upd H l (.lst (xs ++ zs)))) := by
  intro pins s σ H x vs v us Q I rx rv h
  obtain ⟨l, b, xs, zs, rfl, rfl, hH, hB, hz, q⟩ := h
  cases rx
  obtain ⟨u, rfl, ru⟩ := rv.one
  cases ru
  obtain ⟨z, its, n, r, hl, e⟩ := I.lstM hH
  obtain ⟨z2, its2, n2, r2, e2⟩ := Inv.rdl I hB
  have hl2 := r2.length
  have hsz : its.toArray.size + its2.toArray.size ≤ sizeLine := by rw [List.size_toArray, List.size_toArray]; omega
  have hlong : ¬ (!its.toArray.isEmpty && Builtin.List.listTooLong (its.toArray.size + its2.toArray.size)) = true := by
    rw [notLongL hsz, Bool.and_false]
    exact Bool.false_ne_true
  refine call_meets F.slot_list_extend ⟨_, e, rfl⟩ F.entry_list_extend (F.args_list_extend_2 _ _)
    (AutoSeq1.list_extend_list_list_0 l its.toArray n b its2.toArray n2 hlong (by rw [List.size_toArray]; omega) (by omega)) ⟨e, e2, ?_⟩
  refine ⟨.non, _, I.lset (its' := its ++ its2) hH e (by simp) (r.append r2) ?_, rfl, q⟩
  rw [List.length_append]
  omega
theorem sim_extend (W : WX) σ γ ι H h x V y U Q (s : SimH X.K X.mg γ ι H h) (r1 : VR X.K X.mg γ ι H x V) (r2 : VR X.K X.mg γ ι H y U) (p : Post X W (rV X) γ σ (extO x y h) ι H Q) :
    ∃ l b xs zs, V = .ref l ∧ [U] = [.ref b] ∧ H l = some (.lst xs) ∧ RdL X.K H b zs ∧ xs.length + zs.length ≤ sizeLine ∧ Q .non (upd H l (.lst (xs ++ zs))) := by
  unfold extO at p
  split at p
  · split at p
    · rename_i q
      split at p
      · rename_i ys e
        split at p
        · rename_i hz
          obtain ⟨b, vs, rfl, eb, hw, ra⟩ := s.lst r1 q
          obtain ⟨c, us, rfl, _, hc, rc⟩ := s.ls r2 e
          refine ⟨b, c, vs, us, rfl, rfl, hw, hc, line_le (by rw [← ra.length, ← rc.length]; exact hz), ?_⟩
          obtain ⟨s3, e3⟩ := s.put (w := .lst (vs ++ us)) eb (.lst (ra.append rc))
          have e3 := e3 (fun o w z => by simp_all)
          exact p.okE e3 ⟨s3, .non⟩
        · exact p.elim
      · exact p.elim
    · exact p.elim
  · exact p.elim
theorem sim_reverse (W : WX) σ γ ι H h x V Q (s : SimH X.K X.mg γ ι H h) (r1 : VR X.K X.mg γ ι H x V) (p : Post X W (rV X) γ σ (revMO x h) ι H Q) : rReverse V [] H Q := by
  unfold revMO at p
  split at p
  · split at p
    · rename_i q
      obtain ⟨b, vs, rfl, eb, hw, ra⟩ := s.lst r1 q
      obtain ⟨s3, e3⟩ := s.put (w := .lst vs.reverse) eb (.lst ra.reverse)
      have e3 := e3 (fun o w z => by simp_all)
      exact ⟨b, vs, rfl, rfl, hw, p.okE e3 ⟨s3, .non⟩⟩
    · exact p.elim
  · exact p.elim
section
variable {a e : Expr} {ma mb : MEx} {apos : Pos}
theorem me_append (ha : ME X W a ma) (he : ME X W e mb) (hbase : attributeBase a "append" X.env (eval a X.env) = eval a X.env := by rfl)
    (hfew : ((backTo pos (starEach [e] X.env)).all (fun x => !x.1) && (backToKw pos (keywordEach [] X.env)).all (fun x => x.1.isSome)
      && decide (([e] : List Expr).length + ([] : List Keyword).length + (if ([] : List Keyword).isEmpty then 0 else 1) < 30)) = true := by rfl)
    (hline : (apos.endLine == pos.line) = true := by rfl) (hst : starEach [e] X.env = (false, eval e X.env) :: starEach [] X.env := by rfl) (hplain : (backTo pos (starEach [] X.env)).any (·.1) = false := by rfl) :
    ME X W (.Call (.Attribute a "append" apos) [e] [] pos) (mM1 isCell appO ma mb) :=
  me_m1 PySem.F.plainAttrs_list PySem.F.slot_list_append PySem.F.type_list_append mt_append (fun γ ι H h x V s r c => s.ty_list r c) sim_append ha he hbase hfew hline hst hplain
theorem me_popAt (ha : ME X W a ma) (he : ME X W e mb) (hbase : attributeBase a "pop" X.env (eval a X.env) = eval a X.env := by rfl)
    (hfew : ((backTo pos (starEach [e] X.env)).all (fun x => !x.1) && (backToKw pos (keywordEach [] X.env)).all (fun x => x.1.isSome)
      && decide (([e] : List Expr).length + ([] : List Keyword).length + (if ([] : List Keyword).isEmpty then 0 else 1) < 30)) = true := by rfl)
    (hline : (apos.endLine == pos.line) = true := by rfl) (hst : starEach [e] X.env = (false, eval e X.env) :: starEach [] X.env := by rfl) (hplain : (backTo pos (starEach [] X.env)).any (·.1) = false := by rfl) :
    ME X W (.Call (.Attribute a "pop" apos) [e] [] pos) (mM1 isCell popAtO ma mb) :=
  me_m1 PySem.F.plainAttrs_list PySem.F.slot_list_pop PySem.F.type_list_pop mt_popAt (fun γ ι H h x V s r c => s.ty_list r c) sim_popAt ha he hbase hfew hline hst hplain
theorem me_extend (ha : ME X W a ma) (he : ME X W e mb) (hbase : attributeBase a "extend" X.env (eval a X.env) = eval a X.env := by rfl)
    (hfew : ((backTo pos (starEach [e] X.env)).all (fun x => !x.1) && (backToKw pos (keywordEach [] X.env)).all (fun x => x.1.isSome)
      && decide (([e] : List Expr).length + ([] : List Keyword).length + (if ([] : List Keyword).isEmpty then 0 else 1) < 30)) = true := by rfl)
    (hline : (apos.endLine == pos.line) = true := by rfl) (hst : starEach [e] X.env = (false, eval e X.env) :: starEach [] X.env := by rfl) (hplain : (backTo pos (starEach [] X.env)).any (·.1) = false := by rfl) :
    ME X W (.Call (.Attribute a "extend" apos) [e] [] pos) (mM1 isCell extO ma mb) :=
  me_m1 PySem.F.plainAttrs_list PySem.F.slot_list_extend PySem.F.type_list_extend mt_extendR (fun γ ι H h x V s r c => s.ty_list r c) sim_extend ha he hbase hfew hline hst hplain
theorem me_pop (ha : ME X W a ma) (hbase : attributeBase a "pop" X.env (eval a X.env) = eval a X.env := by rfl) (hline : (apos.endLine == pos.line) = true := by rfl) :
    ME X W (.Call (.Attribute a "pop" apos) [] [] pos) (mM0 isCell popO ma) :=
  me_m0 PySem.F.plainAttrs_list PySem.F.slot_list_pop PySem.F.type_list_pop mt_pop (fun γ ι H h x V s r c => s.ty_list r c) sim_pop ha hbase hline
theorem me_reverse (ha : ME X W a ma) (hbase : attributeBase a "reverse" X.env (eval a X.env) = eval a X.env := by rfl) (hline : (apos.endLine == pos.line) = true := by rfl) :
    ME X W (.Call (.Attribute a "reverse" apos) [] [] pos) (mM0 isCell revMO ma) :=
  me_m0 PySem.F.plainAttrs_list PySem.F.slot_list_reverse PySem.F.type_list_reverse mt_reverse (fun γ ι H h x V s r c => s.ty_list r c) sim_reverse ha hbase hline
/-- xs[i] = e, a cell's list: first e, then xs, then i -/
def setO (x y v : MV) (h : MH) : MR Unit := match x, y with
  | .ref n, .int i => match h[n]? with
    | some (.lst xs) => match ixN xs.length i with
      | some j => .ok () (h.set n (.lst (xs.set j v)))
      | none => .stuck
    | _ => .stuck
  | _, _ => .stuck
def mSetIx (a b e : MEx) : MSt := fun l h => (e l h).toS l fun v h1 => (a l h1).toS l fun x h2 => (b l h2).toS l fun y h3 => (setO x y v h3).toS l fun _ h4 => .nx l h4
theorem ms_setIx {b : Expr} {mv : MEx} {tpos : Pos} (ha : ME X W a ma) (hb : ME X W b mb) (he : ME X W e mv) (hs : swapsWithSole [.Subscript a b tpos] e pos.line X.env = pure false := by rfl) (hw : swappedStores [.Subscript a b tpos] e X.env = pure none := by rfl)
    (h1 : (assignEach [.Subscript a b tpos] X.env).map (·.2) = [assign (.Subscript a b tpos) X.env] := by rfl)
    (hg : ∀ v, assign (.Subscript a b tpos) X.env v = (do
      let ov ← holding [v] (eval a X.env)
      let iv ← holding [v, ov] (eval b X.env)
      standAt tpos
      holding [v, ov, iv] (setItem ov iv v)
      release [v, ov, iv] []) := by intro _; rfl) : MSj X W (.Assign [.Subscript a b tpos] e pos) (mSetIx ma mb mv) :=
  psW (ps_asg he (pg_sub ha hb set_list hg) hs hw h1) fun D σ H ⟨γ, ι, l, h, s, lr, p⟩ => ⟨γ, ι, l, h, s, lr, PostS.run (rel := rV X) s lr p fun ι1 v h1 V H1 e1 lr1 ⟨s1, r1⟩ p1 =>
    ⟨γ, ι1, l, h1, s1, lr1, PostS.run (rel := rV X) s1 lr1 p1 fun ι2 x h2 V2 H2 e2 lr2 ⟨s2, r2⟩ p2 =>
    ⟨γ, ι2, l, h2, s2, lr2, PostS.run (rel := rV X) s2 lr2 p2 fun ι3 y h3 V3 H3 e3 lr3 ⟨s3, r3⟩ p3 => by
      have r1' := (r1.mono (e2.grow s1)).mono (e3.grow s2)
      have r2' := r2.mono (e3.grow s2)
      unfold setO at p3
      split at p3
      · split at p3
        · rename_i q
          split at p3
          · rename_i j hj
            cases r3
            obtain ⟨b, vs, rfl, eb, hw, ra⟩ := s3.lst r2' q
            rw [ra.length] at hj
            obtain ⟨s4, e4⟩ := s3.put (w := .lst (vs.set j V)) eb (.lst (ra.set j r1'))
            have e4 := e4 (fun o w z => by simp_all)
            exact ⟨b, vs, _, j, rfl, rfl, hw, hj, p3 ι3 _ _ e4 s4 (lr3.mono (e4.grow s3))⟩
          · exact p3.elim
        · exact p3.elim
      · exact p3.elim⟩⟩⟩
end

/-! ### what is walked -/
theorem Ext.growG {ι H ι' H' γ γ' h} (e : Ext ι H ι' H') (s : SimH X.K X.mg γ ι H h) (g : ∀ d ∈ γ', d ∈ γ ∨ H d = none) : Grow γ ι H γ' ι' H' :=
  ⟨e.pre, fun p vs q => e.keep p _ q (s.not_tup q), fun p o q n n2 => ⟨e.out q n, fun z => (g p z).elim n2 (fun z => by rw [z] at q; cases q), e.keep p o q n⟩⟩
def strMVs (z : Str) : List MV := z.cps.toList.map fun c => .str ⟨#[c]⟩
def itO (x : MV) (h : MH) : MR (List MV) := match x with
  | .tup xs => .ok xs h
  | .fl xs => .ok xs h
  | .str z => .ok (strMVs z) h
  | _ => .stuck
def mIt (m : MEx) : MLx := fun l h => (m l h).bind itO
theorem mi_val {tg e : Expr} {m : MEx} (he : ME X W e m) : MI X W tg e (mIt m) := by
  have all : PI X tg e (fun σ H R => TM X W (rV X) m σ H fun x H1 => (∃ a, x = .ref a ∧ (∃ xs, SqT X.K H1 a xs) ∧ R (Itt X.K a) H1) ∨ (∃ a, x = .ref a ∧ (∃ xs, SqL X.K H1 a xs) ∧ R (Itl X.K a) H1) ∨ (∃ z, x = .str z ∧ R (Its z) H1)) := by
    refine ⟨fun pins s σ H R I h => ?_⟩
    refine thn (PE.run he pins s σ H _ I h) fun v s1 ⟨x, H1, I1, r1, q1⟩ => ?_
    have here : ∀ {t : TE}, (t = fun σ' H' Q' => Q' x H1) → True := fun _ => trivial
    rcases q1 with ⟨a, e, ⟨xs, hq⟩, q⟩ | ⟨a, e, ⟨xs, hq⟩, q⟩ | ⟨z, e, q⟩
    · subst e
      cases r1
      obtain ⟨its, rv, p, hz⟩ := I1.tuple hq
      refine wpAny_pyIter_tuple (show s1.heap.IsTuple a its.toArray from p) ?_
      refine ⟨s1.heap.objs.size, [s1.heap.objs.size], _, _, H1, rfl, I1.kept (t' := s1.toks) fun b o e => Heap.get?_push_of_some _ e, turn_tuple a _, ⟨_, Heap.get?_push_size _ rfl, rfl, rfl⟩, fun b hb => ?_, q⟩
      have e : b = s1.heap.objs.size := by simpa using hb
      subst e
      exact I1.fpOk (Nat.le_refl _) (I1.hok.fresh (Nat.le_refl _))
    · subst e
      cases r1
      obtain ⟨its, rv, p, hz⟩ := I1.list hq
      refine wpAny_pyIter_list p.isList ?_
      refine ⟨s1.heap.objs.size, [s1.heap.objs.size], _, _, H1, rfl, I1.kept (t' := s1.toks) fun b o e => Heap.get?_push_of_some _ e, turn_list a _, ⟨_, Heap.get?_push_size _ rfl, rfl, rfl⟩, fun b hb => ?_, q⟩
      have e : b = s1.heap.objs.size := by simpa using hb
      subst e
      exact I1.fpOk (Nat.le_refl _) (I1.hok.fresh (Nat.le_refl _))
    · subst e
      obtain ⟨t, rfl⟩ := r1
      cases ha : z.cps.all (· < 128)
      · exact wpAny_pyIter_wide ha (pi_one (tk := s1.toks) I1 _ (turn_str _ z t "str_iterator" (.inr rfl)) ⟨_, Heap.get?_push_size _ rfl, rfl, rfl⟩ q)
      · exact wpAny_pyIter_ascii ha (pi_one (tk := s1.toks) I1 _ (turn_str _ z t "str_ascii_iterator" (.inl rfl)) ⟨_, Heap.get?_push_size _ rfl, rfl, rfl⟩ q)
  refine piW all fun σ H R ⟨γ, ι, l, h, s, lr, p⟩ => ⟨γ, ι, l, h, s, lr, p.seq (rel := rV X) fun ι1 x h1 V H1 e1 ⟨s1, r1⟩ p1 => ?_⟩
  unfold itO at p1
  split at p1
  · obtain ⟨a, vs, eV, sa, ra⟩ := r1.tupS
    subst eV
    refine .inl ⟨a, rfl, ⟨vs, sa⟩, p1.ok ⟨s1, fun γ2 ι2 H2 h2 e2 hid s2 => ?_⟩⟩
    obtain ⟨a', us, ea, sb, rb⟩ := (r1.mono (e2.growG s1 hid)).tupS
    cases ea
    refine ⟨fun i hi => ⟨us, sb, by rw [← rb.length]; exact hi⟩, fun i x hx => ?_⟩
    obtain ⟨U, hU, rU⟩ := rb.get hx
    refine ⟨⟨us, U, sb, hU⟩, fun V H' y => ?_⟩
    obtain ⟨rfl, y⟩ := y
    have e : U = V := Option.some.inj (hU.symm.trans (y us sb))
    subst e
    exact ⟨s2, .refl _ _, rU⟩
  · obtain ⟨a, vs, eV, sa, _, ra⟩ := s1.ls r1 rfl
    subst eV
    refine .inr (.inl ⟨a, rfl, ⟨vs, sa⟩, p1.ok ⟨s1, fun γ2 ι2 H2 h2 e2 hid s2 => ?_⟩⟩)
    obtain ⟨a', us, ea, sb, _, rb⟩ := s2.ls (r1.mono (e2.growG s1 hid)) rfl
    cases ea
    refine ⟨fun i hi => ⟨us, sb, by rw [← rb.length]; exact hi⟩, fun i x hx => ?_⟩
    obtain ⟨U, hU, rU⟩ := rb.get hx
    refine ⟨⟨us, U, sb, hU⟩, fun V H' y => ?_⟩
    obtain ⟨rfl, y⟩ := y
    have e : U = V := Option.some.inj (hU.symm.trans (y us sb))
    subst e
    exact ⟨s2, .refl _ _, rU⟩
  · cases r1
    refine .inr (.inr ⟨_, rfl, p1.ok ⟨s1, fun γ2 ι2 H2 h2 e2 hid s2 => ⟨fun i hi => ?_, fun i x hx => ?_⟩⟩⟩)
    · unfold strMVs at hi
      rw [List.length_map, Array.length_toList] at hi
      exact hi
    · unfold strMVs at hx
      rw [List.getElem?_map] at hx
      obtain ⟨c, hc, rfl⟩ := Option.map_eq_some_iff.mp hx
      rw [Array.getElem?_toList] at hc
      refine ⟨(Array.getElem?_eq_some_iff.mp hc).1, fun V H' y => ?_⟩
      obtain ⟨rfl, c', hc', rfl⟩ := y
      rw [hc] at hc'
      cases hc'
      exact ⟨s2, .refl _ _, .str _⟩
  · exact p1.elim
def rgMV (lo : Int) (n : Nat) : List MV := (List.range n).map fun i => .int (lo + (i : Nat))
def rg1 (xs : List MV) (h : MH) : MR (List MV) := match xs with
  | [.int j] => if -(2 ^ 62) ≤ j ∧ j < 2 ^ 62 then .ok (rgMV 0 j.toNat) h else .stuck
  | _ => .stuck
def rg2 (xs : List MV) (h : MH) : MR (List MV) := match xs with
  | [.int i, .int j] => if -(2 ^ 62) ≤ i ∧ i < 2 ^ 62 ∧ -(2 ^ 62) ≤ j ∧ j < 2 ^ 62 then .ok (rgMV i (j - i).toNat) h else .stuck
  | _ => .stuck
theorem itr_ok {γ ι : List Addr} {H : Hp} {lo : Int} {n : Nat} : ItOk X γ ι H (Itr lo n) (rgMV lo n) := fun γ2 ι2 H2 h2 e2 hid s2 => by
  refine ⟨fun i hi => ?_, fun i x hx => ?_⟩
  · unfold rgMV at hi
    rw [List.length_map, List.length_range] at hi
    exact hi
  · unfold rgMV at hx
    rw [List.getElem?_map] at hx
    obtain ⟨c, hc, rfl⟩ := Option.map_eq_some_iff.mp hx
    obtain ⟨hlt, e⟩ := List.getElem?_eq_some_iff.mp hc
    rw [List.getElem_range] at e
    subst e
    rw [List.length_range] at hlt
    refine ⟨hlt, fun V H' y => ?_⟩
    obtain ⟨rfl, rfl⟩ := y
    exact ⟨s2, .refl _ _, .int _⟩
theorem mi_range1 {tg a : Expr} {m : MLx} {p : Pos} (hm : X.mg "range" = none) (ha : MA X W [a] m) (hg : Gl X "range" := by rfl) (hs : starEach [a] X.env = [(false, eval a X.env)] := by rfl) : MI X W tg (.Call (.Name "range" p) [a] [] pos) (mCL rg1 m) :=
  piW (pi_range1 hg hm ha hs) fun σ H R ⟨γ, ι, l, h, s, lr, p⟩ => ⟨γ, ι, l, h, s, lr, p.seq (rel := rVs X) fun ι1 xs h1 Vs H1 e1 ⟨s1, r1⟩ p1 => by
    unfold rg1 at p1
    split at p1
    · split at p1
      · rename_i hz
        obtain ⟨V, rfl, q1⟩ := r1.c1
        cases q1
        exact ⟨_, rfl, hz.1, hz.2, p1.ok ⟨s1, itr_ok⟩⟩
      · exact p1.elim
    · exact p1.elim⟩
theorem mi_range2 {tg a b : Expr} {m : MLx} {p : Pos} (hm : X.mg "range" = none) (ha : MA X W [a, b] m) (hg : Gl X "range" := by rfl) (hs : starEach [a, b] X.env = [(false, eval a X.env), (false, eval b X.env)] := by rfl) (hs2 : starEach [b] X.env = [(false, eval b X.env)] := by rfl) :
    MI X W tg (.Call (.Name "range" p) [a, b] [] pos) (mCL rg2 m) :=
  piW (pi_range2 hg hm ha hs hs2) fun σ H R ⟨γ, ι, l, h, s, lr, p⟩ => ⟨γ, ι, l, h, s, lr, p.seq (rel := rVs X) fun ι1 xs h1 Vs H1 e1 ⟨s1, r1⟩ p1 => by
    unfold rg2 at p1
    split at p1
    · split at p1
      · rename_i hz
        obtain ⟨V, U, rfl, q1, q2⟩ := r1.c2
        cases q1; cases q2
        exact ⟨_, _, rfl, hz, p1.ok ⟨s1, itr_ok⟩⟩
      · exact p1.elim
    · exact p1.elim⟩
def zipMV (xs ys : List MV) : List MV := (xs.zip ys).map fun p => .tup [p.1, p.2]
def zipL (xs : List MV) (h : MH) : MR (List MV) := match xs with
  | [.tup a, .tup b] => .ok (zipMV a b) h
  | [.fl a, .fl b] => .ok (zipMV a b) h
  | _ => .stuck
theorem zip_get {xs ys : List MV} {i : Nat} {x : MV} (h : (zipMV xs ys)[i]? = some x) : ∃ a b, xs[i]? = some a ∧ ys[i]? = some b ∧ x = .tup [a, b] := by
  unfold zipMV at h
  rw [List.getElem?_map] at h
  obtain ⟨⟨a, b⟩, hc, rfl⟩ := Option.map_eq_some_iff.mp h
  rw [List.getElem?_zip_eq_some] at hc
  exact ⟨a, b, hc.1, hc.2, rfl⟩
theorem zip_len {xs ys : List MV} {i : Nat} (h : (zipMV xs ys).length ≤ i) : xs.length ≤ i ∨ ys.length ≤ i := by
  unfold zipMV at h
  rw [List.length_map, List.length_zip] at h
  omega
theorem mi_zip {e e2 : Expr} {m : MLx} {p tpos : Pos} {elts : List Expr} {kk : Nat} (hm : X.mg "zip" = none) (ha : MA X W [e, e2] m) (hg : Gl X "zip" := by rfl)
    (hs : starEach [e, e2] X.env = (false, eval e X.env) :: starEach [e2] X.env := by rfl) (hpl : (backTo pos (starEach [e2] X.env)).any (·.1) = false := by rfl) :
    MI X W (.Tuple elts kk tpos) (.Call (.Name "zip" p) [e, e2] [] pos) (mCL zipL m) :=
  piW (RZ.pi_zipA hg hm ha hs hpl) fun σ H R ⟨γ, ι, l, h, s, lr, p⟩ => ⟨γ, ι, l, h, s, lr, p.seq (rel := rVs X) fun ι1 xs h1 Vs H1 e1 ⟨s1, r1⟩ p1 => by
    unfold zipL at p1
    split at p1
    · obtain ⟨V, U, rfl, q1, q2⟩ := r1.c2
      obtain ⟨a, vs, eV, sa, ra⟩ := q1.tupS
      obtain ⟨b, us, eU, sb, rb⟩ := q2.tupS
      subst eV eU
      refine ⟨a, b, vs, us, rfl, .inr ⟨sa, sb, p1.ok ⟨s1, fun γ2 ι2 H2 h2 e2 hid s2 => ?_⟩⟩⟩
      obtain ⟨a', vs', ea, sa', ra'⟩ := (q1.mono (e2.growG s1 hid)).tupS
      cases ea
      obtain ⟨b', us', eb, sb', rb'⟩ := (q2.mono (e2.growG s1 hid)).tupS
      cases eb
      refine ⟨fun i hi => ⟨vs', us', sa', sb', by rw [← ra'.length, ← rb'.length]; exact zip_len hi⟩, fun i x hx => ?_⟩
      obtain ⟨u, v, hu, hv, rfl⟩ := zip_get hx
      obtain ⟨U, hU, rU⟩ := ra'.get hu
      obtain ⟨V, hV, rV'⟩ := rb'.get hv
      refine ⟨⟨vs', us', U, V, sa', sb', hU, hV⟩, fun Z H' y => ?_⟩
      obtain ⟨T, x', y', rfl, hT, rfl, y1, y2⟩ := y
      have ex : U = x' := Option.some.inj (hU.symm.trans (y1 _ sa'))
      have ey : V = y' := Option.some.inj (hV.symm.trans (y2 _ sb'))
      subst ex ey
      obtain ⟨e3, s3, r3⟩ := s2.newTup hT (.cons rU (.one rV'))
      exact ⟨s3, e3, r3⟩
    · obtain ⟨V, U, rfl, q1, q2⟩ := r1.c2
      obtain ⟨a, vs, eV, sa, _, ra⟩ := s1.ls q1 rfl
      obtain ⟨b, us, eU, sb, _, rb⟩ := s1.ls q2 rfl
      subst eV eU
      refine ⟨a, b, vs, us, rfl, .inl ⟨sa, sb, p1.ok ⟨s1, fun γ2 ι2 H2 h2 e2 hid s2 => ?_⟩⟩⟩
      obtain ⟨a', vs', ea, sa', _, ra'⟩ := s2.ls (q1.mono (e2.growG s1 hid)) rfl
      cases ea
      obtain ⟨b', us', eb, sb', _, rb'⟩ := s2.ls (q2.mono (e2.growG s1 hid)) rfl
      cases eb
      refine ⟨fun i hi => ⟨vs', us', sa', sb', by rw [← ra'.length, ← rb'.length]; exact zip_len hi⟩, fun i x hx => ?_⟩
      obtain ⟨u, v, hu, hv, rfl⟩ := zip_get hx
      obtain ⟨U, hU, rU⟩ := ra'.get hu
      obtain ⟨V, hV, rV'⟩ := rb'.get hv
      refine ⟨⟨vs', us', U, V, sa', sb', hU, hV⟩, fun Z H' y => ?_⟩
      obtain ⟨T, x', y', rfl, hT, rfl, y1, y2⟩ := y
      have ex : U = x' := Option.some.inj (hU.symm.trans (y1 _ sa'))
      have ey : V = y' := Option.some.inj (hV.symm.trans (y2 _ sb'))
      subst ex ey
      obtain ⟨e3, s3, r3⟩ := s2.newTup hT (.cons rU (.one rV'))
      exact ⟨s3, e3, r3⟩
    · exact p1.elim⟩
/-! enumerate(t), t a tuple -/
theorem enumT_new (t : Addr) (ys : Array Value) (n : Nat) (dc : Option Addr) (sl : Array (Option Value)) :
    Meets (Builtin.«enumerate.__new__» ⟨[.type "enumerate", .ref t], []⟩) (fun _ R q => q.heap.get? t = some { cls := .type "tuple", dict := dc, data := .seq ys n, slots := sl } ∧
      R (.ok (.ret (.ref (q.heap.push { cls := .type "tuple_iterator", data := .fields #[.ref t, .int 0 0] }).objs.size)))
        { q with heap := (q.heap.push { cls := .type "tuple_iterator", data := .fields #[.ref t, .int 0 0] }).push { cls := .type "enumerate", data := .fields #[.none, .bool false, .ref q.heap.objs.size, rawInt 0, .none, .none] } }) :=
  .of_wp fun prog w A R q h => by
    obtain ⟨hp, g, d, tk, os⟩ := q; obtain ⟨ht, h⟩ := h
    have hsub := sub_enumerate; have hT : Heap.IsTuple (Shared.heap ⟨hp, g, d, tk, os⟩) t ys := ⟨_, ht, rfl, n, rfl⟩
    have f1 := @AutoSeq1.wpAny_loadPart'
    wp_walk using AutoSeq1.wpAny_loadPart' ht
    refine wpAny_stack_any fun st => wpAny_pure ?_; split
    · rename_i c _ _ _ _ _
      cases (c == Value.type "enumerate")
      · wp_walk using AutoSeq1.wpAny_loadPart' ht, wpAny_pyIter_tuple hT; exact ⟨_, rfl, h⟩
      · wp_walk using AutoSeq1.wpAny_loadPart' ht, wpAny_pyIter_tuple hT; exact ⟨_, rfl, h⟩
    · wp_walk using AutoSeq1.wpAny_loadPart' ht, wpAny_pyIter_tuple hT; exact ⟨_, rfl, h⟩
theorem enumT_call {prog : Program} {w : World} {A : Around} {E : Value → Shared → Prop} {q : Shared} {t : Addr} {ys : Array Value} {Q : Value → Shared → Prop} (hT : q.heap.IsTuple t ys)
    (h : ∀ h', IsEnum h' (q.heap.objs.size + 1) q.heap.objs.size 0 .none → h'.IsTupleIter q.heap.objs.size t 0 → h'.objs.size = q.heap.objs.size + 2 → (∀ b o, q.heap.get? b = some o → h'.get? b = some o) → Q (.ref (q.heap.objs.size + 1)) { q with heap := h' }) :
    wpAny (model prog w) A (call (.type "enumerate") [.ref t]) Q E q := by
  obtain ⟨⟨c, dc, dt, sl⟩, ht, hc, n, hd⟩ := hT
  have hc' : c = .type "tuple" := hc
  have hd' : dt = .seq ys n := hd
  subst hc' hd'
  have hz : (q.heap.push { cls := .type "tuple_iterator", data := .fields #[.ref t, .int 0 0] }).objs.size = q.heap.objs.size + 1 := Heap.size_push ..
  have he : IsEnum ((q.heap.push { cls := .type "tuple_iterator", data := .fields #[.ref t, .int 0 0] }).push { cls := .type "enumerate", data := .fields #[.none, .bool false, .ref q.heap.objs.size, rawInt 0, .none, .none] }) (q.heap.objs.size + 1) q.heap.objs.size 0 .none := by
    have z := Heap.get?_push_size (q.heap.push { cls := .type "tuple_iterator", data := .fields #[.ref t, .int 0 0] }) (o := { cls := .type "enumerate", data := .fields #[.none, .bool false, .ref q.heap.objs.size, rawInt 0, .none, .none] }) rfl
    rwa [hz] at z
  refine callType_new F.called_enumerate (by decide) (F.typeCall_enumerate_1 _) (F.newCall_enumerate_1 _) (fun ob => F.args_object_init_2 ob _) F.entry_enumerate_new (enumT_new t ys n dc sl) ⟨ht, ?_⟩
  show _ ∧ _
  rw [hz]
  exact ⟨⟨_, he, rfl⟩, h _ he ⟨_, Heap.get?_push_of_some _ (Heap.get?_push_size _ rfl), rfl, rfl⟩ (by rw [Heap.size_push, hz]) fun b o x => Heap.get?_push_of_some _ (Heap.get?_push_of_some _ x)⟩
def Itet (K : PySem.W.Frag) (a : Addr) : It :=
  ⟨fun i H => ∃ (vs : List L2.V) (v : L2.V), SqT K H a vs ∧ vs[i]? = some v, fun i H v H' => ∃ T x, v = .ref T ∧ H T = none ∧ H' = upd H T (.tup [.int (i : Nat), x]) ∧ ∀ vs, SqT K H a vs → vs[i]? = some x, fun i H => ∃ vs : List L2.V, SqT K H a vs ∧ vs.length ≤ i⟩
theorem turn_enumT {P : Program} {w : World} {K : PySem.W.Frag} {elts : List Expr} {kk : Nat} {tpos : Pos} (a e it : Addr) (hea : e ≠ a) (hia : a ≠ it) (ys : Array Value) :
    Turn P w K (.Tuple elts kk tpos) (Itet K a) [e, it] e (fun i h => (∃ old, IsEnum h e it ((i : Nat) : Int) old) ∧ h.IsTupleIter it a i ∧ e ≠ it) where
  mem := by simp
  obj := fun i h st b hb => by
    obtain ⟨⟨old, he⟩, ⟨o, ho, hc, hd⟩, _⟩ := st
    rcases (by simpa using hb : b = e ∨ b = it) with z | z
    · rw [z]; exact ⟨_, he, fun v q => nomatch q⟩
    · rw [z]; exact ⟨o, ho, fun v q => by rw [hd] at q; cases q⟩
  keep := fun i h h' ⟨⟨old, he⟩, hi, hne⟩ k => ⟨⟨old, k e (by simp) _ he⟩, hi.at fun o q => k it (by simp) o q, hne⟩
  item := by
    intro X hP hw hK hc i pins s σ H E I hf st ⟨vs, x, hq, hx⟩; subst hP hw hK
    obtain ⟨⟨old, he⟩, hit, hne⟩ := st; obtain ⟨its, rv, p, hz⟩ := I.tuple hq
    obtain ⟨u, hu, ru⟩ := rv.get hx; have hel : e < s.heap.objs.size := Heap.lt_size he
    have hil : it < s.heap.objs.size := by obtain ⟨_, q, _⟩ := hit; exact Heap.lt_size q
    have hlt : i < its.toArray.size := by
      have := (List.getElem?_eq_some_iff.mp hu).1; simpa using this
    refine wpAny_pyNext_enum_itemD (Draws.tuple (A := X.A.in1) (I.ok.hd hc) it a hia its.toArray) he ⟨hit, p⟩ hlt hne (by simp; exact ⟨hne, hea⟩) fun x' h' tk hx' ho ⟨hit', _⟩ hT hsz hk => ?_
    have ex : x' = u := Option.some.inj (hx'.symm.trans (by simpa using hu)); subst ex
    refine ⟨_, rfl, wpAny_letOwnedTupleGo_enum (s := { s with heap := h', toks := tk + 1 }) ho fun h2 he' sb => ?_⟩
    have hT2 : h2.get? s.heap.objs.size = some { cls := .type "tuple", data := .seq #[.int i tk, x'] } := (sb.2 _ (Nat.ne_of_gt hel)).trans hT
    have I1 : L2.Inv X pins σ (upd H s.heap.objs.size (.tup [.int (i : Nat), x])) { s with heap := h2, toks := tk + 1 } :=
      I.turnedNew (ch := [e, it]) (fun b ob hb q => (sb.2 b (fun z => hb (by simp [z]))).trans (hk b ob (fun z => hb (by simp [z])) (fun z => hb (by simp [z])) q)) hf (Nat.le_refl _) ⟨by show 2 ≤ sizeLine; decide, [.int i tk, x'], .cons ⟨_, rfl⟩ (.cons ru .nil), ⟨_, hT2, rfl, _, rfl⟩⟩
    refine ⟨.ref s.heap.objs.size, _, I1, rfl, ⟨_, x, rfl, I.hok.fresh (Nat.le_refl _), rfl, fun zs hy => by rw [I.tuple_inj hy hq]; exact hx⟩, ⟨⟨x', ?_⟩, hit'.at fun o q => (sb.2 it (Ne.symm hne)).trans q, hne⟩, fun b hb => ?_⟩
    · rw [show ((i + 1 : Nat) : Int) = (i : Int) + 1 by omega]; exact he'
    · have hb' : b < s.heap.objs.size := by
        rcases (by simpa using hb : b = e ∨ b = it) with z | z
        · rw [z]; exact hel
        · rw [z]; exact hil
      rw [upd_ne (Nat.ne_of_lt hb')]; exact (hf b hb).1
  done := by
    intro X hP hw hK hc i pins s σ H E I hf st ⟨vs, hq, hx⟩; subst hP hw hK
    obtain ⟨⟨old, he⟩, hit, hne⟩ := st; obtain ⟨its, rv, p, hz⟩ := I.tuple hq
    obtain ⟨f0, f1, f2, f3, f4, f5⟩ := hf it (by simp); have hl := rv.length
    have hT : s.TypeIs (.ref e) "enumerate" := ⟨_, he, rfl⟩
    unfold pyNext
    refine wpAny_bind (wpAny_attempt (wpAny_callSpecial?_slot (name := Str.ofString "__next__") hT F.slot_enumerate_next (wpAny_call_entry F.slot_enumerate_next hT F.entry_enumerate_next ?_ (F.args_enumerate_next_1 _))))
    show wpAny _ _ (field (.ref e) 2 >>= _) _ _ _
    refine wpAny_bind (wpAny_field he rfl (x := .ref it) rfl (wpAny_bind (wpAny_nextOf_tuple_end (A := X.A.in1) (I.ok.hd hc) hit p (by simp; omega) fun h' x he' hx' => ?_)))
    obtain ⟨o, ho, hc⟩ := hx'
    refine wpAny_bind (wpAny_isInstance (T := "StopIteration") (b := true) ⟨o, ho, hc⟩ isSubtype_stop (wpAny_pure ⟨rfl, ?_⟩))
    exact I.turned (t' := s.toks) (fun b o hb q => he' b o hb q) f0 f1 f3 f4 f5
  self := fun A i s Q E ⟨⟨_, he⟩, _⟩ h => wpAny_pyIter_enum he h
def iEnumA (K : PySem.W.Frag) (ta : TA) : TI := fun σ H R => ta σ H fun vs H1 => ∃ a, vs = [.ref a] ∧ ((∃ xs, SqL K H1 a xs ∧ R (Ite K a) H1) ∨ ∃ xs, SqT K H1 a xs ∧ R (Itet K a) H1)
theorem pi_enumA {e : Expr} {ta : TA} {p tpos : Pos} {elts : List Expr} {kk : Nat} (hg : Gl X "enumerate") (hm : X.mg "enumerate" = none) (ha : PA X [e] ta) (hs : starEach [e] X.env = [(false, eval e X.env)] := by rfl) :
    PI X (.Tuple elts kk tpos) (.Call (.Name "enumerate" p) [e] [] pos) (iEnumA X.K ta) := by
  refine ⟨fun pins s σ H R I h => Call_ (ld_blt I hg hm boot_enumerate (PyProof.Rows.callWith_type1 (thn (ha.run pos pins s σ H _ I h) fun us s1 ⟨vs, H1, I1, r1, a, ex, q⟩ => ?_) hs rfl))⟩
  subst ex
  cases r1 with
  | cons r rr =>
    cases rr; cases r
    have fp : ∀ {b : Addr}, s1.heap.objs.size ≤ b → FpOk X pins H1 b := fun {b} hle => I1.fpOk hle (I1.hok.fresh hle)
    have two : ∀ b ∈ ([s1.heap.objs.size + 1, s1.heap.objs.size] : List Addr), FpOk X pins H1 b := fun b hb => by
      rcases (by simpa using hb : b = s1.heap.objs.size + 1 ∨ b = s1.heap.objs.size) with z | z
      · rw [z]; exact fp (Nat.le_succ _)
      · rw [z]; exact fp (Nat.le_refl _)
    rcases q with ⟨xs, hq, q⟩ | ⟨xs, hq, q⟩
    · obtain ⟨its, rv, p', hz⟩ := I1.list hq
      exact call_enumerate_list p'.isList fun h' he hit hsz hk => wpAny_pyIter_enum he ⟨s1.heap.objs.size + 1, [s1.heap.objs.size + 1, s1.heap.objs.size], _, _, H1, rfl, I1.kept (t' := s1.toks) hk, turn_enum a _ _, ⟨⟨.none, he⟩, hit, Nat.succ_ne_self _⟩, two, q⟩
    · obtain ⟨its, rv, p', hz⟩ := I1.tuple hq
      have hlt : a < s1.heap.objs.size := by obtain ⟨o, ho, _⟩ := p'; exact Heap.lt_size ho
      exact enumT_call p' fun h' he hit hsz hk => wpAny_pyIter_enum he ⟨s1.heap.objs.size + 1, [s1.heap.objs.size + 1, s1.heap.objs.size], _, _, H1, rfl, I1.kept (t' := s1.toks) hk, turn_enumT a _ _ (Nat.ne_of_gt (Nat.lt_succ_of_lt hlt)) (Nat.ne_of_lt hlt) #[], ⟨⟨.none, he⟩, hit, Nat.succ_ne_self _⟩, two, q⟩
def enumMV (xs : List MV) : List MV := xs.mapIdx fun i x => .tup [.int (i : Nat), x]
def enumL (xs : List MV) (h : MH) : MR (List MV) := match xs with
  | [.fl a] => .ok (enumMV a) h
  | [.tup a] => .ok (enumMV a) h
  | _ => .stuck
theorem mi_enum {e : Expr} {m : MLx} {p tpos : Pos} {elts : List Expr} {kk : Nat} (hm : X.mg "enumerate" = none) (ha : MA X W [e] m) (hg : Gl X "enumerate" := by rfl) (hs : starEach [e] X.env = [(false, eval e X.env)] := by rfl) :
    MI X W (.Tuple elts kk tpos) (.Call (.Name "enumerate" p) [e] [] pos) (mCL enumL m) :=
  piW (pi_enumA hg hm ha hs) fun σ H R ⟨γ, ι, l, h, s, lr, p⟩ => ⟨γ, ι, l, h, s, lr, p.seq (rel := rVs X) fun ι1 xs h1 Vs H1 e1 ⟨s1, r1⟩ p1 => by
    unfold enumL at p1
    split at p1
    · obtain ⟨V, rfl, q1⟩ := r1.c1
      obtain ⟨a, vs, eV, sa, _, ra⟩ := s1.ls q1 rfl
      subst eV
      refine ⟨a, rfl, .inl ⟨vs, sa, p1.ok ⟨s1, fun γ2 ι2 H2 h2 e2 hid s2 => ?_⟩⟩⟩
      obtain ⟨a', vs', ea, sa', _, ra'⟩ := s2.ls (q1.mono (e2.growG s1 hid)) rfl
      cases ea
      refine ⟨fun i hi => ⟨vs', sa', by rw [← ra'.length]; simpa [enumMV] using hi⟩, fun i x hx => ?_⟩
      unfold enumMV at hx
      rw [List.getElem?_mapIdx] at hx
      obtain ⟨u, hu, rfl⟩ := Option.map_eq_some_iff.mp hx
      obtain ⟨U, hU, rU⟩ := ra'.get hu
      refine ⟨⟨vs', U, sa', hU⟩, fun Z H' y => ?_⟩
      obtain ⟨T, x', rfl, hT, rfl, y1⟩ := y
      have ex : U = x' := Option.some.inj (hU.symm.trans (y1 _ sa'))
      subst ex
      obtain ⟨e3, s3, r3⟩ := s2.newTup hT (.cons (.int _) (.one rU))
      exact ⟨s3, e3, r3⟩
    · obtain ⟨V, rfl, q1⟩ := r1.c1
      obtain ⟨a, vs, eV, sa, ra⟩ := q1.tupS
      subst eV
      refine ⟨a, rfl, .inr ⟨vs, sa, p1.ok ⟨s1, fun γ2 ι2 H2 h2 e2 hid s2 => ?_⟩⟩⟩
      obtain ⟨a', vs', ea, sa', ra'⟩ := (q1.mono (e2.growG s1 hid)).tupS
      cases ea
      refine ⟨fun i hi => ⟨vs', sa', by rw [← ra'.length]; simpa [enumMV] using hi⟩, fun i x hx => ?_⟩
      unfold enumMV at hx
      rw [List.getElem?_mapIdx] at hx
      obtain ⟨u, hu, rfl⟩ := Option.map_eq_some_iff.mp hx
      obtain ⟨U, hU, rU⟩ := ra'.get hu
      refine ⟨⟨vs', U, sa', hU⟩, fun Z H' y => ?_⟩
      obtain ⟨T, x', rfl, hT, rfl, y1⟩ := y
      have ex : U = x' := Option.some.inj (hU.symm.trans (y1 _ sa'))
      subst ex
      obtain ⟨e3, s3, r3⟩ := s2.newTup hT (.cons (.int _) (.one rU))
      exact ⟨s3, e3, r3⟩
    · exact p1.elim⟩
/-! ### a variable that holds a cell's list, walked -/
def asC : MV → MH → MR Nat
  | .ref n, h => match h[n]? with
    | some (.lst _) => .ok n h
    | some (.frz (.lst _)) => .ok n h
    | _ => .stuck
  | _, _ => .stuck
def mItC (m : MEx) : Loc → MH → MR Nat := fun l h => (m l h).bind asC
theorem mic_val {tg e : Expr} {m : MEx} (he : ME X W e m) : MIC X W tg e (mItC m) :=
  piW (pi_list he) fun σ H R ⟨γ, ι, l, h, s, lr, p⟩ => ⟨γ, ι, l, h, s, lr, p.seq (rel := rV X) fun ι1 x h1 V H1 e1 ⟨s1, r1⟩ p1 => by
    unfold asC at p1
    split at p1
    · split at p1
      · rename_i q
        obtain ⟨a, vs, rfl, ea, hw, ra⟩ := s1.lst r1 q
        exact ⟨a, rfl, ⟨vs, .of hw⟩, p1.ok ⟨s1, a, ea, rfl⟩⟩
      · rename_i n _ ys q
        cases r1 with
        | ref ea =>
          obtain ⟨vs, hvs, rvs⟩ := s1.list (.inr q) ea
          exact ⟨_, rfl, ⟨vs, hvs⟩, p1.ok ⟨s1, _, ea, rfl⟩⟩
      · exact p1.elim
    · exact p1.elim⟩
/-! ### f(.., k = e) -/
def permL {α : Type} (π : List Nat) (xs : List α) : List α := π.filterMap fun i => xs[i]?
theorem Paired.perm {α β : Type} {F : α → β → Prop} {xs : List α} {ys : List β} (r : Paired F xs ys) : ∀ π : List Nat, Paired F (permL π xs) (permL π ys)
  | [] => .nil
  | i :: π => by
    have ih := Paired.perm r π
    unfold permL at ih ⊢
    have hl := Paired.length r
    cases e : xs[i]? with
    | none =>
      have e2 : ys[i]? = none := by rw [List.getElem?_eq_none_iff] at e ⊢; omega
      rw [List.filterMap_cons_none e, List.filterMap_cons_none e2]; exact ih
    | some x =>
      have : ∀ {xs : List α} {ys : List β} {i : Nat} {x : α}, Paired F xs ys → xs[i]? = some x → ∃ y, ys[i]? = some y ∧ F x y := by
        intro xs ys i x r
        induction r generalizing i with
        | nil => intro e; simp at e
        | cons a b ih =>
          intro e
          cases i with
          | zero => simp at e; subst e; exact ⟨_, rfl, a⟩
          | succ i => simpa using ih (by simpa using e)
      obtain ⟨y, hy, f⟩ := this r e
      rw [List.filterMap_cons_some e, List.filterMap_cons_some hy]
      exact .cons f ih
theorem VRs.perm {K mg γ ι H} {xs vs} (r : VRs K mg γ ι H xs vs) : ∀ π : List Nat, VRs K mg γ ι H (permL π xs) (permL π vs)
  | [] => .nil
  | i :: π => by
    have ih := VRs.perm r π
    unfold permL at ih ⊢
    have hl := r.length
    cases e : xs[i]? with
    | none =>
      have e2 : vs[i]? = none := by rw [List.getElem?_eq_none_iff] at e ⊢; omega
      rw [List.filterMap_cons_none e, List.filterMap_cons_none e2]; exact ih
    | some x =>
      obtain ⟨y, hy, f⟩ := r.get e
      rw [List.filterMap_cons_some e, List.filterMap_cons_some hy]
      exact .cons f ih
/-- a def called with n1 values by place and the names ks; π: where each parameter's value stands among them -/
structure FnK (P : Program) (w : World) (K : PySem.W.Frag) (mg : Str → Option Value) (base : Heap) (x : Str) (n k : Nat) (mf : List MV → MH → MR MV) (n1 : Nat) (ks : List Str) (π : List Nat) : Prop where
  ex : ∃ (f : Addr) (fd : FuncData) (ps : List Str), mg x = some (.ref f) ∧ PySem.W.keepIn K (.ref f) = true ∧ FnOk P w K mg base (L2.CX P w) k f fd ps (spM K mg n mf) ∧
    ∀ (s : Shared) (us ws : List Value), us.length = n1 → ws.length = ks.length → BindsTo s fd ⟨us, ks.zip ws⟩ (ps.zip (permL π (us ++ ws)))
def MK (X : Cx) (W : WX) (kws : List Keyword) (m : MLx) : Prop := PK X kws (TM X W (rVs X) m)
theorem pkW {X : Cx} {e : List Keyword} {t t' : TA} (h : PK X e t) (w : ∀ σ H Q, t' σ H Q → t σ H Q) : PK X e t' := ⟨fun pos pins s σ H Q I q => h.run pos pins s σ H Q I (w σ H Q q)⟩
theorem mk_nil : MK X W [] maNil := pkW pk_nil fun σ H Q ⟨γ, ι, l, h, s, lr, p⟩ => p.ok ⟨s, .nil⟩
theorem mk_cons {nm : Option Str} {e : Expr} {kpos : Pos} {kws : List Keyword} {m : MEx} {n : MLx} (ha : ME X W e m) (hr : MK X W kws n) : MK X W (⟨nm, e, kpos⟩ :: kws) (maCons m n) := by
  refine pkW (pk_cons ha hr) fun σ H Q ⟨γ, ι, l, h, s, lr, p⟩ => ⟨γ, ι, l, h, s, lr, p.seq (rel := rV X) fun ι1 x h1 b H1 e1 ⟨s1, r1⟩ p1 => ?_⟩
  refine ⟨γ, ι1, l, h1, s1, lr.mono (e1.grow s), p1.seq (rel := rVs X) fun ι2 xs h2 bs H2 e2 ⟨s2, r2⟩ p2 => ?_⟩
  exact p2.ok ⟨s2, .cons (r1.mono (e2.grow s1)) r2⟩
def mCallK (n n1 n2 : Nat) (π : List Nat) (mf : List MV → MH → MR MV) (a b : MLx) : MEx := fun l h => (a l h).bind fun xs h1 => (b l h1).bind fun ys h2 => if xs.length = n1 ∧ ys.length = n2 ∧ (permL π (xs ++ ys)).length = n then mf (permL π (xs ++ ys)) h2 else .stuck
theorem run_fnKW {k : Nat} {n1 : Nat} {ks : List Str} {π : List Nat} {pins : List (Addr × Obj)} {σ : L2.St} {H : Hp} {s : Shared} {Q : VK} {us ws : List Value} {vs zs : List V} {f : Addr} {fd : FuncData} {ps : List Str} {sp : Sp}
    (F : FnOk X.prog X.w X.K X.mg X.base (L2.CX X.prog X.w) k f fd ps sp) (hb : ∀ (s : Shared) (us ws : List Value), us.length = n1 → ws.length = ks.length → BindsTo s fd ⟨us, ks.zip ws⟩ (ps.zip (permL π (us ++ ws)))) (hr : Room k X.A) (tk : Takes X W)
    (I : Inv X pins σ H s) (r : Vals vs us) (rz : Vals zs ws) (l1 : vs.length = n1) (l2 : zs.length = ks.length) (h : sp (permL π (vs ++ zs)) H Q fun cls d H' => W cls d σ H') : wpAny (model X.prog X.w) X.A (call (.ref f) us (ks.zip ws)) (EP X pins σ Q) X.xe s := by
  have r2 : Vals (permL π (vs ++ zs)) (permL π (us ++ ws)) := Paired.perm (r.append rz) π
  refine wpAny_call (codeAny_mono (F.run X.A X.stack s H ⟨us, ks.zip ws⟩ (permL π (us ++ ws)) _ Q _ hr I.env0 (hb s us ws (r.length.symm.trans l1) (rz.length.symm.trans l2)) r2 h) fun r s' hq => ?_)
  cases r with
  | error e => exact tk e s' (XE.of_call I (fun cls d H' z => z) hq)
  | ok fl =>
    cases fl with
    | ret u => exact I.after hq
    | next => exact False.elim hq
    | brk => exact False.elim hq
    | cont => exact False.elim hq
theorem me_callK0 {x : Str} {n k : Nat} {mf : List MV → MH → MR MV} {ks : List Str} {π : List Nat} {kws : List Keyword} {mb : MLx} {p : Pos} (F : FnK X.prog X.w X.K X.mg X.base x n k mf 0 ks π) (hr : Room k X.A) (tk : Takes X W) (hkw : MK X W kws mb) (hg : Gl X x := by rfl)
    (hall : (backToKw pos (keywordEach kws X.env)).all (·.1.isSome) = true := by rfl) (hks : (backToKw pos (keywordEach kws X.env)).filterMap (·.1) = ks := by rfl) (hdb : (x == ("__debug__" : Str)) = false := by decide)
    (hpl : ((backTo pos (starEach [] X.env)).any (·.1) || (backToKw pos (keywordEach kws X.env)).any (·.1.isNone)) = false := by rfl) :
    ME X W (.Call (.Name x p) [] kws pos) (mCallK n 0 ks.length π mf maNil mb) := by
  obtain ⟨f, fd, ps, hm, hk, F, hb⟩ := F.ex
  have main : PE X (.Call (.Name x p) [] kws pos) (fun σ H Q => TM X W (rVs X) mb σ H fun zs H1 => zs.length = ks.length ∧ spM X.K X.mg n mf (permL π ([] ++ zs)) H1 Q fun cls d H' => W cls d σ H') := by
    refine ⟨fun pins s σ H Q I h => ?_⟩
    refine wpAny_Call_Name_kw (ld_glob I hg hm ?_ hdb)
    refine PySem.W.callWith_KW0 (h₀ := X.base) I.ok.mod.kin hk hall (thn (PK.run hkw pos pins s σ H _ I h) fun ws s2 ⟨zs, H2, I2, rz, l2, q2⟩ => ⟨I2.kIn, ?_⟩) hpl
    rw [hks]
    exact run_fnKW (n1 := 0) F hb hr tk I2 .nil rz rfl l2 q2
  refine peW main fun σ H Q ⟨γ, ι, l, h, s, lr, p⟩ => ⟨γ, ι, l, h, s, lr, ?_⟩
  have p : Post X W (rV X) γ σ ((mb l h).bind fun ys h2 => if ([] : List MV).length = 0 ∧ ys.length = ks.length ∧ (permL π ([] ++ ys)).length = n then mf (permL π ([] ++ ys)) h2 else .stuck) ι H Q := p
  refine p.seq (rel := rVs X) fun ι1 ys h1 zs H1 e1 ⟨s1, r1⟩ p1 => ?_
  by_cases hc : ([] : List MV).length = 0 ∧ ys.length = ks.length ∧ (permL π ([] ++ ys)).length = n
  · rw [if_pos hc] at p1
    refine ⟨by rw [← r1.length]; exact hc.2.1, spM_of s1 (VRs.perm r1 π) ?_⟩
    rw [if_pos (show (permL π ys).length = n from hc.2.2)]
    exact p1
  · rw [if_neg hc] at p1; exact p1.elim
theorem me_callK {x : Str} {n k n1 : Nat} {mf : List MV → MH → MR MV} {ks : List Str} {π : List Nat} {kws : List Keyword} {e : Expr} {es : List Expr} {ma mb : MLx} {p : Pos} (F : FnK X.prog X.w X.K X.mg X.base x n k mf n1 ks π) (hr : Room k X.A) (tk : Takes X W) (ha : MA X W (e :: es) ma) (hkw : MK X W kws mb) (hg : Gl X x := by rfl)
    (hall : (backToKw pos (keywordEach kws X.env)).all (·.1.isSome) = true := by rfl) (hks : (backToKw pos (keywordEach kws X.env)).filterMap (·.1) = ks := by rfl) (hdb : (x == ("__debug__" : Str)) = false := by decide)
    (he : starEach (e :: es) X.env = (false, eval e X.env) :: starEach es X.env := by rfl)
    (hpl : ((backTo pos (starEach (e :: es) X.env)).any (·.1) || (backToKw pos (keywordEach kws X.env)).any (·.1.isNone)) = false := by rfl) :
    ME X W (.Call (.Name x p) (e :: es) kws pos) (mCallK n n1 ks.length π mf ma mb) := by
  obtain ⟨f, fd, ps, hm, hk, F, hb⟩ := F.ex
  have main : PE X (.Call (.Name x p) (e :: es) kws pos) (fun σ H Q => TM X W (rVs X) ma σ H fun vs H0 => TM X W (rVs X) mb σ H0 fun zs H1 => vs.length = n1 ∧ zs.length = ks.length ∧ spM X.K X.mg n mf (permL π (vs ++ zs)) H1 Q fun cls d H' => W cls d σ H') := by
    refine ⟨fun pins s σ H Q I h => ?_⟩
    refine wpAny_Call_Name_kw (ld_glob I hg hm ?_ hdb)
    refine PySem.W.callWith_KW (h₀ := X.base) I.ok.mod.kin hk hall (thn (PA.run ha pos pins s σ H _ I h) fun us s1 ⟨vs, H1, I1, r, q⟩ => ?_) hpl he
    refine thn (PK.run hkw pos pins s1 σ H1 _ I1 q) fun ws s2 ⟨zs, H2, I2, rz, l1, l2, q2⟩ => ⟨I2.kIn, ?_⟩
    rw [hks]
    exact run_fnKW F hb hr tk I2 r rz l1 l2 q2
  refine peW main fun σ H Q ⟨γ, ι, l, h, s, lr, p⟩ => ⟨γ, ι, l, h, s, lr, p.seq (rel := rVs X) fun ι1 xs h1 vs H1 e1 ⟨s1, r1⟩ p1 => ?_⟩
  refine ⟨γ, ι1, l, h1, s1, lr.mono (e1.grow s), p1.seq (rel := rVs X) fun ι2 ys h2 zs H2 e2 ⟨s2, r2⟩ p2 => ?_⟩
  split at p2
  · rename_i hc
    have r1' := r1.mono (e2.grow s1)
    refine ⟨by rw [← r1'.length]; exact hc.1, by rw [← r2.length]; exact hc.2.1, spM_of s2 (VRs.perm (r1'.append r2) π) ?_⟩
    rw [if_pos hc.2.2]
    exact p2
  · exact p2.elim
end
end ML

set_option maxRecDepth 100000
/-! ML8: a def of the text, its mini function; the end of a law. -/
namespace ML
open PySem PySem.Spec PyProof.Rows L2

section
variable {P : Program} {w : World} {K : PySem.W.Frag} {mg : Str → Option Value} {base : Heap}
abbrev FnP (K : PySem.W.Frag) (x qual : Str) (st : Stmt) (f : Addr) (fd : FuncData) : Prop := FunD K x qual (defArgs st) (defBody st) (defScope st) [] [] f fd
/-- a def without defaults -/
theorem fnH {x nm qual : Str} {st : Stmt} {f : Addr} {fd : FuncData} {N ps : List Str} {k : Nat} {body : MSt} (F : FnP K nm qual st f fd) (hm : mg x = some (.ref f)) (S : FnScope N ps (defScope st))
    (hb : ∀ (kV doc pm : Value) (an : Option Addr) (cdv ct : Value) (us : List Value), us.length = ps.length → bindArgs (PySem.W.fnOf nm qual (defArgs st) (defBody st) (defScope st) .none kV doc pm an cdv ct) ⟨us, []⟩ = pure (ps.zip us))
    (h : ∀ (cdv : Value) (A : Around) (outer : List Env) (s : Shared) (H : Hp) (E : XK), Room k (A.deeper (envOfC qual (defScope st) s.heap.objs.size f cdv)) →
        MSs (cxOf (L2.CX P w) P w K mg base N qual (defScope st) f cdv A outer s H E) (fun cls d _ H' => E cls d H') (defBody st) body) :
    FnH P w K mg base x ps.length (k + 1) (mRun N.length ps.length body) f fd ps := by
  have hbi := F.bindsN hb
  obtain ⟨oc, od, dV, kV, doc, pm, an, cdv, ct, osl, e, lk, hcd, hD, hK⟩ := F.ex
  exact fnH_of (st := st) (y := x) ⟨oc, od, kV, doc, pm, an, cdv, ct, osl, nm, _, _, _, dV, e, lk, hcd, S, hbi, fun A outer s H E hr => h cdv A outer s H E hr⟩ hm F.kp
/-- .. called with names -/
theorem FnH.kw {x nm qual : Str} {st : Stmt} {f : Addr} {fd : FuncData} {n k : Nat} {mf : List MV → MH → MR MV} {ps : List Str} (n1 : Nat) (ks : List Str) (π : List Nat) (G : FnH P w K mg base x n k mf f fd ps) (F : FnP K nm qual st f fd)
    (hb : ∀ (kV doc pm : Value) (an : Option Addr) (cdv ct : Value) (us ws : List Value), us.length = n1 → ws.length = ks.length → bindArgs (PySem.W.fnOf nm qual (defArgs st) (defBody st) (defScope st) .none kV doc pm an cdv ct) ⟨us, ks.zip ws⟩ = pure (ps.zip (permL π (us ++ ws)))) :
    FnK P w K mg base x n k mf n1 ks π := by
  have hb' : ∀ (s : Shared) (us ws : List Value), us.length = n1 → ws.length = ks.length → BindsTo s fd ⟨us, ks.zip ws⟩ (ps.zip (permL π (us ++ ws))) := by
    obtain ⟨oc, od, dV, kV, doc, pm, an, cdv, ct, osl, rfl, lk, hcd, hD, hK⟩ := F.ex
    rcases hD with ⟨_, rfl⟩ | ⟨e, _⟩
    · exact fun s us ws l1 l2 => .of_eq (hb kV doc pm an cdv ct us ws l1 l2)
    · exact absurd rfl e
  exact ⟨f, fd, ps, G.hm, G.kp, G.ok, hb'⟩
end
section
variable {X : Cx} {W : WX} {pos : Pos}
theorem me_gi {x : Str} {i : Int} {pos : Pos} (hm : ∃ t, X.mg x = some (.int i t)) (hg : Gl X x := by rfl) (hd : (x == ("__debug__" : Str)) = false := by decide) : ME X W (.Name x pos) (mc (.int i)) := by
  obtain ⟨t, hm⟩ := hm
  exact me_gint hm hg hd
theorem me_gs {x : Str} {i : Str} {pos : Pos} (hm : ∃ t, X.mg x = some (.str i t)) (hg : Gl X x := by rfl) (hd : (x == ("__debug__" : Str)) = false := by decide) : ME X W (.Name x pos) (mc (.str i)) := by
  obtain ⟨t, hm⟩ := hm
  exact me_gstr hm hg hd
end
/-! ### the end of a law -/
theorem cxF {P : Program} {w : World} {outer : List Env} {H : Hp} {s : Shared} {e : Value} {s' : Shared} (h : L2.CX P w outer H s (fun _ _ _ => False) e s') : False := by
  obtain ⟨_, _, _, _, _, _, _, _, _, _, _, _, z⟩ := h
  exact z
theorem ints_rs {K mg γ ι H} : ∀ ns : List Int, VRs K mg γ ι H (ns.map MV.int) (ns.map V.int)
  | [] => .nil
  | _ :: ns => .cons (.int _) (ints_rs ns)
theorem walkM {l : PySem.W.OpenLaw} {n k : Nat} {q : Program} {loose : List Str} {XP : (Str → Option Value) → Heap → Prop} {YP : World → Heap → Prop} {d : DefRec} {x : Str} {mf : List MV → MH → MR MV}
    (hn : l.most = some n) (hn2 : n ≤ sizeLine) (hdf : d.params.defaults = []) (hr : Room k callerA)
    (F : ∀ (w : World) (mg : Str → Option Value) (fa : Addr) (h : Heap), YP w h → h.Ns mainGlobals mg → mg d.name = some (.ref fa) →
      ∃ (K : PySem.W.Frag) (fd : FuncData), K.In h ∧ (∀ (s : Shared) (u : Value), BindsTo s fd ⟨[u], []⟩ [(x, u)]) ∧
        ∀ base : Heap, K.In base → base.Ns mainGlobals mg → FnOk l.prog w K mg base (L2.CX l.prog w) k fa fd [x] (spM K mg 1 mf))
    (hmf : ∀ ns : List Int, ns.length ≤ n → (∀ z ∈ ns, Builtin.Int.intBits z ≤ 1048576) → ∃ h', mf [.fl (ns.map .int)] [] = .ok (.bl true) h') :
    PySem.W.WalkO q loose XP YP l.row.toRowW d [] (fun f vs => PySem.call f vs) := by
  refine Att.attach_callB hn hdf fun w s₀ s₁ mg mb fa o pm cd doc a vs ns G Y ho hd hcd hmg hobj hints hlen hbits hg => ?_
  obtain ⟨K, fd, KX, hb, hF⟩ := F w mg fa _ Y G.T.g hmg
  refine law_call KX G.T.g G.T.b G.T.builtins G.T.nolimit hg hobj hints (Nat.le_trans hlen hn2) hr hF hb (fun H hO hS => ?_) fun H e s' => cxF
  obtain ⟨h', e⟩ := hmf ns hlen hbits
  have rs : ∀ γ ι H, VRs K mg γ ι H (ns.map MV.int) (ns.map V.int) := fun γ ι H => ints_rs ns
  refine ⟨[], [], [], [.fl (ns.map .int)], ⟨rfl, List.nodup_nil, fun n o a e _ => by simp at e, fun d hd => by simp at hd⟩, .one ?_, rfl, ?_⟩
  · rcases hS with hS | ⟨o', its, m, h1, h2, h3, h4, h5, h6⟩
    · exact .fl (hS.elim .inl .inr) (by simp) (by simp) (rs _ _ _)
    · have e1 := KX a o' h1
      rw [hobj] at e1
      cases e1
      cases h4
      exact .flK ⟨vs, _, h1, by simpa using h5, by simpa using h6⟩ (rs _ _ _)
  · rw [e]
    dsimp only
    intro ι' b H' e1 s1 r1
    cases r1
    rfl
end ML

set_option maxRecDepth 100000
/-! ML9: weakest preconditions of mini programs. -/
namespace ML
open PySem PySem.Spec PyProof.Rows L2

abbrev PE' := Str → List (Str × MV) → MH → Prop
def noE : PE' := fun _ _ _ => False
/-- what shall hold at a statement's other ends -/
structure Po where
  R : MV → MH → Prop
  B : Loc → MH → Prop
  C : Loc → MH → Prop
  E : Str → List (Str × MV) → Loc → MH → Prop
def okR0 {α : Type} (r : MR α) (Q : α → MH → Prop) (E : PE') : Prop := match r with
  | .ok a h => Q a h
  | .exn c fs h => E c fs h
  | .stuck => False
def okS0 (r : MS) (N : Loc → MH → Prop) (P : Po) : Prop := match r with
  | .nx l h => N l h
  | .rt v h => P.R v h
  | .bk l h => P.B l h
  | .ct l h => P.C l h
  | .exn c fs l h => P.E c fs l h
  | .stuck => False
structure okR {α : Type} (r : MR α) (Q : α → MH → Prop) (E : PE') : Prop where
  out : okR0 r Q E
structure okS (r : MS) (N : Loc → MH → Prop) (P : Po) : Prop where
  out : okS0 r N P
theorem okR_ok {α : Type} {a : α} {h : MH} {Q : α → MH → Prop} {E : PE'} (q : Q a h) : okR (.ok a h) Q E := ⟨q⟩
theorem okR_mono {α : Type} {r : MR α} {Q Q' : α → MH → Prop} {E E' : PE'} (o : okR r Q E) (h1 : ∀ a h, Q a h → Q' a h) (h2 : ∀ c fs h, E c fs h → E' c fs h) : okR r Q' E' := by
  cases r with
  | ok a h => exact ⟨h1 _ _ o.out⟩
  | exn c fs h => exact ⟨h2 _ _ _ o.out⟩
  | stuck => exact o.out.elim
theorem okS_mono {r : MS} {N N' : Loc → MH → Prop} {P P' : Po} (o : okS r N P) (h1 : ∀ a h, N a h → N' a h) (hR : ∀ a h, P.R a h → P'.R a h) (hB : ∀ a h, P.B a h → P'.B a h) (hC : ∀ a h, P.C a h → P'.C a h)
    (hE : ∀ c fs l h, P.E c fs l h → P'.E c fs l h) : okS r N' P' := by
  cases r with
  | nx l h => exact ⟨h1 _ _ o.out⟩
  | rt l h => exact ⟨hR _ _ o.out⟩
  | bk l h => exact ⟨hB _ _ o.out⟩
  | ct l h => exact ⟨hC _ _ o.out⟩
  | exn c fs l h => exact ⟨hE _ _ _ _ o.out⟩
  | stuck => exact o.out.elim
theorem okR_iff {α : Type} {r : MR α} {Q : α → MH → Prop} : okR r Q noE ↔ ∃ a h, r = .ok a h ∧ Q a h := by
  constructor
  · intro o
    cases r with
    | ok a h => exact ⟨a, h, rfl, o.out⟩
    | exn c fs h => exact o.out.elim
    | stuck => exact o.out.elim
  · rintro ⟨a, h, rfl, q⟩
    exact ⟨q⟩
theorem okR_bind {α β : Type} {r : MR α} {k : α → MH → MR β} {Q : β → MH → Prop} {E : PE'} (o : okR r (fun a h => okR (k a h) Q E) E) : okR (r.bind k) Q E := by
  cases r with
  | ok a h => exact o.out
  | exn c fs h => exact ⟨o.out⟩
  | stuck => exact o.out.elim
theorem okR_toS {α : Type} {r : MR α} {l : Loc} {k : α → MH → MS} {N : Loc → MH → Prop} {P : Po} (o : okR r (fun a h => okS (k a h) N P) fun c fs h => P.E c fs l h) : okS (r.toS l k) N P := by
  cases r with
  | ok a h => exact o.out
  | exn c fs h => exact ⟨o.out⟩
  | stuck => exact o.out.elim
theorem okS_bind {r : MS} {k : MSt} {N : Loc → MH → Prop} {P : Po} (o : okS r (fun l h => okS (k l h) N P) P) : okS (r.bind k) N P := by
  cases r with
  | nx l h => exact o.out
  | stuck => exact o.out.elim
  | _ => exact ⟨o.out⟩
theorem okR_bindn {α β : Type} {r : MR α} {k : α → MH → MR β} {Q : β → MH → Prop} {E : PE'} (o : okR r (fun a h => okR0 (k a h) Q E) E) : okR (r.bind k) Q E := okR_bind (okR_mono o (fun _ _ q => ⟨q⟩) fun _ _ _ q => q)
theorem okR_toSn {α : Type} {r : MR α} {l : Loc} {k : α → MH → MS} {N : Loc → MH → Prop} {P : Po} (o : okR r (fun a h => okS0 (k a h) N P) fun c fs h => P.E c fs l h) : okS (r.toS l k) N P := okR_toS (okR_mono o (fun _ _ q => ⟨q⟩) fun _ _ _ q => q)
/-- a result that is known -/
theorem okR_eq {α : Type} {r : MR α} {a : α} {h : MH} {Q : α → MH → Prop} {E : PE'} (e : r = .ok a h) (q : Q a h) : okR r Q E := by rw [e]; exact ⟨q⟩
section
variable {α : Type} {l : Loc} {h : MH} {N : Loc → MH → Prop} {P : Po} {E : PE'} {i : Nat}
/-! statements -/
theorem wp_seq {a b : MSt} (o : okS (a l h) (fun l h => okS (b l h) N P) P) : okS (mSeq a b l h) N P := okS_bind o
theorem wp_nil (o : N l h) : okS (mNil l h) N P := ⟨o⟩
theorem wp_set {e : MEx} (o : okR (e l h) (fun v h1 => N (l.set i (some v)) h1) fun c fs h => P.E c fs l h) : okS (mSet i e l h) N P := okR_toSn o
theorem wp_expr {e : MEx} (o : okR (e l h) (fun _ h1 => N l h1) fun c fs h => P.E c fs l h) : okS (mExpr e l h) N P := okR_toSn o
theorem wp_ret {e : MEx} (o : okR (e l h) (fun v h1 => P.R v h1) fun c fs h => P.E c fs l h) : okS (mRet e l h) N P := okR_toSn o
theorem wp_retN (o : P.R .non h) : okS (mRetN l h) N P := ⟨o⟩
theorem wp_brk (o : P.B l h) : okS (mBrk l h) N P := ⟨o⟩
theorem wp_cnt (o : P.C l h) : okS (mCnt l h) N P := ⟨o⟩
theorem wp_ifS {c : MBx} {a b : MSt} (o : okR (c l h) (fun k h1 => okS (if k then a l h1 else b l h1) N P) fun c fs h => P.E c fs l h) : okS (mIfS c a b l h) N P := okR_toS o
theorem wp_iteS {c : Prop} [Decidable c] {a b : MS} (h1 : c → okS a N P) (h2 : ¬c → okS b N P) : okS (if c then a else b) N P := by
  split
  · exact h1 ‹_›
  · exact h2 ‹_›
theorem wp_iteS_t {c : Prop} [Decidable c] {a b : MS} (hc : c) (h1 : okS a N P) : okS (if c then a else b) N P := by rw [if_pos hc]; exact h1
theorem wp_iteS_f {c : Prop} [Decidable c] {a b : MS} (hc : ¬c) (h1 : okS b N P) : okS (if c then a else b) N P := by rw [if_neg hc]; exact h1
theorem wp_ite {c : Prop} [Decidable c] {a b : MR α} {Q : α → MH → Prop} (h1 : c → okR a Q E) (h2 : ¬c → okR b Q E) : okR (if c then a else b) Q E := by
  split
  · exact h1 ‹_›
  · exact h2 ‹_›
theorem wp_ite_t {c : Prop} [Decidable c] {a b : MR α} {Q : α → MH → Prop} (hc : c) (h1 : okR a Q E) : okR (if c then a else b) Q E := by rw [if_pos hc]; exact h1
theorem wp_ite_f {c : Prop} [Decidable c] {a b : MR α} {Q : α → MH → Prop} (hc : ¬c) (h1 : okR b Q E) : okR (if c then a else b) Q E := by rw [if_neg hc]; exact h1
theorem wp_asg {t : Tg} {e : MEx} (o : okR (e l h) (fun v h1 => ∃ l', t.set v l = some l' ∧ N l' h1) fun c fs h => P.E c fs l h) : okS (mAsg t e l h) N P := by
  refine okR_toS (okR_mono o ?_ fun _ _ _ q => q)
  rintro a h1 ⟨l', e1, q⟩
  rw [e1]; exact ⟨q⟩
theorem wp_setIx {a b e : MEx} (o : okR (e l h) (fun v h1 => okR (a l h1) (fun x h2 => okR (b l h2) (fun y h3 => okR (setO x y v h3) (fun _ h4 => N l h4) fun c fs h => P.E c fs l h) fun c fs h => P.E c fs l h) fun c fs h => P.E c fs l h) fun c fs h => P.E c fs l h) : okS (mSetIx a b e l h) N P :=
  okR_toS (okR_mono o (fun _ _ q => okR_toS (okR_mono q (fun _ _ q => okR_toS (okR_mono q (fun _ _ q => okR_toSn q) fun _ _ _ q => q)) fun _ _ _ q => q)) fun _ _ _ q => q)
theorem wp_for {t : Tg} {it : MLx} {body : MSt} (o : okR (it l h) (fun xs h1 => okS (forGo t body xs l h1) N P) fun c fs h => P.E c fs l h) : okS (mFor t it body l h) N P := okR_toS o
/-- a for loop, with what holds ahead of the k-th turn -/
theorem forGo_inv {t : Tg} {body : MSt} (I : Nat → Loc → MH → Prop) {xs : List MV} {l : Loc} {h : MH} (h0 : I 0 l h)
    (step : ∀ k x l h, xs[k]? = some x → I k l h → ∃ l', t.set x l = some l' ∧ okS (body l' h) (I (k + 1)) { P with B := N, C := I (k + 1) }) (h1 : ∀ l h, I xs.length l h → N l h) : okS (forGo t body xs l h) N P := by
  suffices H : ∀ (ys : List MV) (k : Nat) (l : Loc) (h : MH), ys = xs.drop k → k ≤ xs.length → I k l h → okS (forGo t body ys l h) N P from H xs 0 l h (by simp) (Nat.zero_le _) h0
  intro ys
  induction ys with
  | nil =>
    intro k l h e hk i0
    have : k = xs.length := by
      have := congrArg List.length e
      simp at this; omega
    subst this
    exact ⟨h1 l h i0⟩
  | cons y ys ih =>
    intro k l h e hk i0
    have hlt : k < xs.length := by
      have := congrArg List.length e
      simp at this; omega
    have hy : xs[k]? = some y := by
      have := congrArg (·[0]?) e
      simp at this
      rw [← this]
    have hys : ys = xs.drop (k + 1) := by
      have := congrArg List.tail e
      simpa using this
    obtain ⟨l', e1, o⟩ := step k y l h hy i0
    unfold forGo
    rw [e1]
    dsimp only
    revert o
    cases body l' h with
    | nx l2 h2 => exact fun o => ih (k + 1) l2 h2 hys hlt o.out
    | ct l2 h2 => exact fun o => ih (k + 1) l2 h2 hys hlt o.out
    | bk l2 h2 => exact fun o => ⟨o.out⟩
    | rt v h2 => exact fun o => ⟨o.out⟩
    | exn c fs l2 h2 => exact fun o => ⟨o.out⟩
    | stuck => exact fun o => ⟨o.out⟩
theorem wp_forC {t : Tg} {it : Loc → MH → MR Nat} {body : MSt} (o : okR (it l h) (fun n h1 => ∃ xs, h1[n]? = some (.lst xs) ∧ okS (forGoC t body n xs xs l h1) N P) fun c fs h => P.E c fs l h) : okS (mForC t it body l h) N P := by
  refine okR_toS (okR_mono o ?_ fun _ _ _ q => q)
  rintro n h1 ⟨xs, e, q⟩
  rw [e]; exact q
theorem forGoC_inv {t : Tg} {body : MSt} (I : Nat → Loc → MH → Prop) {xs : List MV} {n : Nat} {l : Loc} {h : MH} (h0 : I 0 l h)
    (hl : ∀ k l h, I k l h → h[n]? = some (.lst xs))
    (step : ∀ k x l h, xs[k]? = some x → I k l h → ∃ l', t.set x l = some l' ∧ okS (body l' h) (I (k + 1)) { P with B := N, C := I (k + 1) }) (h1 : ∀ l h, I xs.length l h → N l h) : okS (forGoC t body n xs xs l h) N P := by
  suffices H : ∀ (ys : List MV) (k : Nat) (l : Loc) (h : MH), ys = xs.drop k → k ≤ xs.length → I k l h → okS (forGoC t body n xs ys l h) N P from H xs 0 l h (by simp) (Nat.zero_le _) h0
  intro ys
  induction ys with
  | nil =>
    intro k l h e hk i0
    have : k = xs.length := by
      have := congrArg List.length e
      simp at this; omega
    subst this
    unfold forGoC
    rw [if_pos (.inl (hl _ _ _ i0))]
    exact ⟨h1 l h i0⟩
  | cons y ys ih =>
    intro k l h e hk i0
    have hlt : k < xs.length := by
      have := congrArg List.length e
      simp at this; omega
    have hy : xs[k]? = some y := by
      have := congrArg (·[0]?) e
      simp at this
      rw [← this]
    have hys : ys = xs.drop (k + 1) := by
      have := congrArg List.tail e
      simpa using this
    obtain ⟨l', e1, o⟩ := step k y l h hy i0
    unfold forGoC
    rw [if_pos (.inl (hl _ _ _ i0)), e1]
    dsimp only
    revert o
    cases body l' h with
    | nx l2 h2 => exact fun o => ih (k + 1) l2 h2 hys hlt o.out
    | ct l2 h2 => exact fun o => ih (k + 1) l2 h2 hys hlt o.out
    | bk l2 h2 => exact fun o => ⟨o.out⟩
    | rt v h2 => exact fun o => ⟨o.out⟩
    | exn c fs l2 h2 => exact fun o => ⟨o.out⟩
    | stuck => exact fun o => ⟨o.out⟩
/-- while: what holds at the k-th turn, and a number of turns that is enough -/
theorem wp_while {c : MBx} {b : MSt} (I : Nat → Loc → MH → Prop) (m : Nat) (h0 : I m l h)
    (step : ∀ k l h, I k l h → okR (c l h) (fun t h1 => if t then ∃ k', k = k' + 1 ∧ okS (b l h1) (I k') { P with B := N, C := I k' } else N l h1) fun c fs h => P.E c fs l h) : okS (mWhile c b l h) N P := by
  have H : ∀ (k : Nat) (l : Loc) (h : MH), I k l h → okS (whGo c b (k + 1) l h) N P := by
    intro k
    induction k with
    | zero =>
      intro l h i0
      refine okR_toS (okR_mono (step 0 l h i0) ?_ fun _ _ _ q => q)
      intro t h1 q
      cases t with
      | true => obtain ⟨k', e, _⟩ := q; cases e
      | false => exact ⟨q⟩
    | succ k ih =>
      intro l h i0
      refine okR_toS (okR_mono (step (k + 1) l h i0) ?_ fun _ _ _ q => q)
      intro t h1 q
      cases t with
      | true =>
        obtain ⟨k', e, o⟩ := q
        cases e
        revert o
        simp only [if_true]
        cases b l h1 with
        | nx l2 h2 => exact fun o => ih l2 h2 o.out
        | ct l2 h2 => exact fun o => ih l2 h2 o.out
        | bk l2 h2 => exact fun o => ⟨o.out⟩
        | rt v h2 => exact fun o => ⟨o.out⟩
        | exn c fs l2 h2 => exact fun o => ⟨o.out⟩
        | stuck => exact fun o => ⟨o.out⟩
      | false => exact ⟨q⟩
  have hn : whGo c b (m + 1) l h ≠ .stuck := fun z => by
    have := H m l h h0
    rw [z] at this; exact this.out
  have e : mWhile c b l h = whGo c b (m + 1) l h := by
    unfold mWhile
    have q : ∃ n, whGo c b n l h ≠ .stuck := ⟨_, hn⟩
    rw [dif_pos q]
    rcases Nat.le_total q.choose (m + 1) with z | z
    · exact (whGo_mono z q.choose_spec).symm
    · exact whGo_mono z hn
  rw [e]
  exact H m l h h0
end
section
variable {α : Type} {l : Loc} {h : MH} {E : PE'} {Q : MV → MH → Prop} {QB : Bool → MH → Prop} {QL : List MV → MH → Prop} {QO : Option Int → MH → Prop}
/-! expressions -/
theorem wp_mv {i : Nat} {v : MV} (e : l[i]? = some (some v)) (q : Q v h) : okR (mv i l h) Q E := by unfold mv; rw [e]; exact ⟨q⟩
theorem wp_mc {v : MV} (q : Q v h) : okR (mc v l h) Q E := ⟨q⟩
theorem wp_op {f : MOp} {a b : MEx} (o : okR (a l h) (fun x h1 => okR (b l h1) (fun y h2 => okR (f x y h2) Q E) E) E) : okR (mOp f a b l h) Q E := okR_bind (okR_mono o (fun _ _ q => okR_bind q) fun _ _ _ q => q)
theorem wp_B {m : MEx} (o : okR (m l h) (fun v h1 => okR (asB v h1) QB E) E) : okR (mB m l h) QB E := okR_bind o
theorem wp_asB {b : Bool} (q : QB b h) : okR (asB (.bl b) h) QB E := ⟨q⟩
theorem wp_and {a b : MBx} (o : okR (a l h) (fun c h1 => (c = true → okR (b l h1) QB E) ∧ (c = false → QB false h1)) E) : okR (mAnd a b l h) QB E := by
  refine okR_bind (okR_mono o ?_ fun _ _ _ q => q)
  rintro c h1 ⟨q1, q2⟩
  cases c with
  | true => first | exact q1 rfl | exact ⟨q1 rfl⟩
  | false => first | exact q2 rfl | exact ⟨q2 rfl⟩
theorem wp_or {a b : MBx} (o : okR (a l h) (fun c h1 => (c = true → QB true h1) ∧ (c = false → okR (b l h1) QB E)) E) : okR (mOr a b l h) QB E := by
  refine okR_bind (okR_mono o ?_ fun _ _ _ q => q)
  rintro c h1 ⟨q1, q2⟩
  cases c with
  | true => first | exact q1 rfl | exact ⟨q1 rfl⟩
  | false => first | exact q2 rfl | exact ⟨q2 rfl⟩
theorem wp_not {a : MBx} (o : okR (a l h) (fun c h1 => QB (!c) h1) E) : okR (mNot a l h) QB E := okR_bindn o
theorem wp_andV {a : MBx} {b : MEx} (o : okR (a l h) (fun c h1 => (c = true → okR (b l h1) Q E) ∧ (c = false → Q (.bl false) h1)) E) : okR (mAndV a b l h) Q E := by
  refine okR_bind (okR_mono o ?_ fun _ _ _ q => q)
  rintro c h1 ⟨q1, q2⟩
  cases c with
  | true => first | exact q1 rfl | exact ⟨q1 rfl⟩
  | false => first | exact q2 rfl | exact ⟨q2 rfl⟩
theorem wp_orV {a : MBx} {b : MEx} (o : okR (a l h) (fun c h1 => (c = true → Q (.bl true) h1) ∧ (c = false → okR (b l h1) Q E)) E) : okR (mOrV a b l h) Q E := by
  refine okR_bind (okR_mono o ?_ fun _ _ _ q => q)
  rintro c h1 ⟨q1, q2⟩
  cases c with
  | true => first | exact q1 rfl | exact ⟨q1 rfl⟩
  | false => first | exact q2 rfl | exact ⟨q2 rfl⟩
theorem wp_notV {a : MBx} (o : okR (a l h) (fun c h1 => Q (.bl (!c)) h1) E) : okR (mNotV a l h) Q E := okR_bindn o
theorem wp_if {c : MBx} {a b : MEx} (o : okR (c l h) (fun k h1 => okR (if k then a l h1 else b l h1) Q E) E) : okR (mIf c a b l h) Q E := okR_bind o
theorem wp_isN {a : MEx} (o : okR (a l h) (fun x h1 => Q (.bl (isNO x)) h1) E) : okR (mIsN a l h) Q E := okR_bindn o
theorem wp_notN {a : MEx} (o : okR (a l h) (fun x h1 => Q (.bl (!isNO x)) h1) E) : okR (mNotN a l h) Q E := okR_bindn o
theorem wp_neg {a : MEx} (o : okR (a l h) (fun x h1 => okR (negO x h1) Q E) E) : okR (mNeg a l h) Q E := okR_bind o
theorem wp_negO {i : Int} (q : Q (.int (-i)) h) : okR (negO (.int i) h) Q E := ⟨q⟩
theorem wp_maNil (q : QL [] h) : okR (maNil l h) QL E := ⟨q⟩
theorem wp_maCons {a : MEx} {r : MLx} (o : okR (a l h) (fun x h1 => okR (r l h1) (fun xs h2 => QL (x :: xs) h2) E) E) : okR (maCons a r l h) QL E := okR_bind (okR_mono o (fun _ _ q => okR_bindn q) fun _ _ _ q => q)
theorem wp_tup {a : MLx} (o : okR (a l h) (fun xs h1 => xs.length ≤ 16777216 ∧ Q (.tup xs) h1) E) : okR (mTup a l h) Q E := okR_bind (okR_mono o (fun xs h1 q => by rw [if_pos q.1]; exact ⟨q.2⟩) fun _ _ _ q => q)
theorem wp_lst {a : MLx} (o : okR (a l h) (fun xs h1 => xs.length ≤ 16777216 ∧ QL xs h1) E) : okR (mLst a l h) QL E := okR_bind (okR_mono o (fun xs h1 q => by rw [if_pos q.1]; exact ⟨q.2⟩) fun _ _ _ q => q)
theorem wp_fl {a : MLx} (o : okR (a l h) (fun xs h1 => Q (.fl xs) h1) E) : okR (mFl a l h) Q E := okR_bindn o
theorem wp_al {a : MLx} (o : okR (a l h) (fun xs h1 => Q (.ref h1.length) (h1 ++ [.lst xs])) E) : okR (mAl a l h) Q E := okR_bindn o
theorem wp_CB {cf : MCf} {a : MLx} (o : okR (a l h) (fun xs h1 => okR (cf xs h1) Q E) E) : okR (mCB cf a l h) Q E := okR_bind o
theorem wp_CL {cf : List MV → MH → MR (List MV)} {a : MLx} (o : okR (a l h) (fun xs h1 => okR (cf xs h1) QL E) E) : okR (mCL cf a l h) QL E := okR_bind o
theorem wp_It {m : MEx} (o : okR (m l h) (fun x h1 => okR (itO x h1) QL E) E) : okR (mIt m l h) QL E := okR_bind o
theorem wp_ItC {m : MEx} {QN : Nat → MH → Prop} (o : okR (m l h) (fun x h1 => okR (asC x h1) QN E) E) : okR (mItC m l h) QN E := okR_bind o
theorem wp_asC {n : Nat} {xs : List MV} {QN : Nat → MH → Prop} (e : h[n]? = some (.lst xs)) (q : QN n h) : okR (asC (.ref n) h) QN E := by unfold asC; dsimp only; rw [e]; exact ⟨q⟩
theorem wp_Isi {T : String} {a : MEx} (o : okR (a l h) (fun x h1 => okR (isiV T x h1) Q E) E) : okR (mIsi T a l h) Q E := okR_bind o
theorem wp_isiV {T : String} {x : MV} {b : Bool} (e : (tyN h x).bind (fun t => kitB t T) = some b) (q : Q (.bl b) h) : okR (isiV T x h) Q E := by unfold isiV; rw [e]; exact ⟨q⟩
theorem wp_Rev {a : MEx} (o : okR (a l h) (fun x h1 => okR (revO x h1) Q E) E) : okR (mRev a l h) Q E := okR_bind o
theorem wp_poNone (q : QO none h) : okR (poNone l h) QO E := ⟨q⟩
theorem wp_poSome {m : MEx} (o : okR (m l h) (fun x h1 => okR (asI x h1) QO E) E) : okR (poSome m l h) QO E := okR_bind o
theorem wp_asI {i : Int} (q : QO (some i) h) : okR (asI (.int i) h) QO E := ⟨q⟩
theorem wp_Sl {a : MEx} {lo hi : MPo} (o : okR (a l h) (fun x h1 => okR (lo l h1) (fun i h2 => okR (hi l h2) (fun j h3 => okR (slO x i j h3) Q E) E) E) E) : okR (mSl a lo hi l h) Q E :=
  okR_bind (okR_mono o (fun _ _ q => okR_bind (okR_mono q (fun _ _ q => okR_bind q) fun _ _ _ q => q)) fun _ _ _ q => q)
theorem wp_SlL {a : MEx} {lo hi : MPo} (o : okR (a l h) (fun x h1 => okR (lo l h1) (fun i h2 => okR (hi l h2) (fun j h3 => okR (slL x i j h3) QL E) E) E) E) : okR (mSlL a lo hi l h) QL E :=
  okR_bind (okR_mono o (fun _ _ q => okR_bind (okR_mono q (fun _ _ q => okR_bind q) fun _ _ _ q => q)) fun _ _ _ q => q)
theorem wp_M1 {chk : MH → MV → Bool} {f : MOp} {a b : MEx} (o : okR (a l h) (fun x h1 => chk h1 x = true ∧ okR (b l h1) (fun y h2 => okR (f x y h2) Q E) E) E) : okR (mM1 chk f a b l h) Q E :=
  okR_bind (okR_mono o (fun _ _ q => by rw [if_pos q.1]; exact okR_bind q.2) fun _ _ _ q => q)
theorem wp_M0 {chk : MH → MV → Bool} {f : MV → MH → MR MV} {a : MEx} (o : okR (a l h) (fun x h1 => chk h1 x = true ∧ okR (f x h1) Q E) E) : okR (mM0 chk f a l h) Q E :=
  okR_bind (okR_mono o (fun _ _ q => by rw [if_pos q.1]; exact q.2) fun _ _ _ q => q)
theorem wp_call {n : Nat} {mf : List MV → MH → MR MV} {a : MLx} (o : okR (a l h) (fun xs h1 => xs.length = n ∧ okR (mf xs h1) Q E) E) : okR (mCall n mf a l h) Q E :=
  okR_bind (okR_mono o (fun _ _ q => by rw [if_pos q.1]; exact q.2) fun _ _ _ q => q)
theorem wp_callK {n n1 n2 : Nat} {π : List Nat} {mf : List MV → MH → MR MV} {a b : MLx} (o : okR (a l h) (fun xs h1 => okR (b l h1) (fun ys h2 => (xs.length = n1 ∧ ys.length = n2 ∧ (permL π (xs ++ ys)).length = n) ∧ okR (mf (permL π (xs ++ ys)) h2) Q E) E) E) : okR (mCallK n n1 n2 π mf a b l h) Q E :=
  okR_bind (okR_mono o (fun _ _ q => okR_bind (okR_mono q (fun _ _ q => by rw [if_pos q.1]; exact q.2) fun _ _ _ q => q)) fun _ _ _ q => q)
theorem wp_yes (q : QB true h) : okR (mYes l h) QB E := ⟨q⟩
theorem wp_LC {t : Tg} {own : List Nat} {it : MLx} {c : MBx} {e : MEx} (o : okR (it l h) (fun xs h1 => okR (lcGo t c e xs [] (wipeL l own) h1) QL noE) E) : okR (mLC t own it c e l h) QL E := by
  refine okR_bind (okR_mono o ?_ fun _ _ _ q => q)
  intro xs h1 q
  revert q
  cases lcGo t c e xs [] (wipeL l own) h1 with
  | ok a h => exact fun q => ⟨q.out⟩
  | exn c fs h => exact fun q => q.out.elim
  | stuck => exact fun q => q.out.elim
/-! values -/
theorem wp_add {i j : Int} (q : Q (.int (i + j)) h) : okR (addO (.int i) (.int j) h) Q E := ⟨q⟩
theorem wp_addT {a b : List MV} (hl : a.length + b.length ≤ 16777216) (q : Q (.tup (a ++ b)) h) : okR (addO (.tup a) (.tup b) h) Q E := by
  show okR (if _ then _ else _) Q E
  exact wp_ite_t hl ⟨q⟩
theorem wp_addF {a b : List MV} (hl : a.length + b.length ≤ 16777216) (q : Q (.fl (a ++ b)) h) : okR (addO (.fl a) (.fl b) h) Q E := by
  show okR (if _ then _ else _) Q E
  exact wp_ite_t hl ⟨q⟩
theorem wp_sub {i j : Int} (q : Q (.int (i - j)) h) : okR (subO (.int i) (.int j) h) Q E := ⟨q⟩
theorem wp_mod {i j : Int} (hj : 0 < j) (q : Q (.int (i % j)) h) : okR (modO (.int i) (.int j) h) Q E := by
  show okR (if _ then _ else _) Q E
  exact wp_ite_t hj ⟨q⟩
theorem wp_fdiv {i j : Int} (hj : 0 < j ∧ j.natAbs.log2 < 9000) (q : Q (.int (i / j)) h) : okR (fdivO (.int i) (.int j) h) Q E := by
  show okR (if _ then _ else _) Q E
  exact wp_ite_t hj ⟨q⟩
theorem wp_pow {i j : Int} (hj : 0 ≤ j ∧ j ≤ 1000000 ∧ i.natAbs < 2 ^ 64) (q : Q (.int (i ^ j.toNat)) h) : okR (powO (.int i) (.int j) h) Q E := by
  show okR (if _ then _ else _) Q E
  exact wp_ite_t hj ⟨q⟩
theorem wp_mul {i j : Int} (hj : MulOk i j) (q : Q (.int (i * j)) h) : okR (mulO (.int i) (.int j) h) Q E := by
  show okR (if _ then _ else _) Q E
  exact wp_ite_t hj ⟨q⟩
theorem wp_mulT {xs : List MV} {k : Int} (hj : -(2 ^ 63) ≤ k ∧ k < 2 ^ 63 ∧ xs.length * k.toNat ≤ 16777216) (q : Q (.tup (List.replicate k.toNat xs).flatten) h) : okR (mulO (.tup xs) (.int k) h) Q E := by
  show okR (if _ then _ else _) Q E
  exact wp_ite_t hj ⟨q⟩
theorem wp_mulF {xs : List MV} {k : Int} (hj : -(2 ^ 63) ≤ k ∧ k < 2 ^ 63 ∧ xs.length * k.toNat ≤ 16777216) (q : Q (.fl (List.replicate k.toNat xs).flatten) h) : okR (mulO (.fl xs) (.int k) h) Q E := by
  show okR (if _ then _ else _) Q E
  exact wp_ite_t hj ⟨q⟩
theorem wp_cmp {f g} {i j : Int} (q : Q (.bl (f i j)) h) : okR (cmpO f g (.int i) (.int j) h) Q E := ⟨q⟩
theorem wp_le {i j : Int} (q : Q (.bl (decide (i ≤ j))) h) : okR (leO (.int i) (.int j) h) Q E := ⟨q⟩
theorem wp_ge {i j : Int} (q : Q (.bl (decide (j ≤ i))) h) : okR (geO (.int i) (.int j) h) Q E := ⟨q⟩
theorem wp_eqI {i j : Int} (q : Q (.bl (decide (i = j))) h) : okR (eqO (.int i) (.int j) h) Q E := ⟨q⟩
theorem wp_neI {i j : Int} (q : Q (.bl (!decide (i = j))) h) : okR (neO (.int i) (.int j) h) Q E := ⟨q⟩
theorem wp_eqS {i j : Str} (q : Q (.bl (decide (i = j))) h) : okR (eqO (.str i) (.str j) h) Q E := ⟨q⟩
theorem wp_neS {i j : Str} (q : Q (.bl (!decide (i = j))) h) : okR (neO (.str i) (.str j) h) Q E := ⟨q⟩
theorem wp_eqB {i j : Bool} (q : Q (.bl (decide (i = j))) h) : okR (eqO (.bl i) (.bl j) h) Q E := ⟨q⟩
theorem wp_neB {i j : Bool} (q : Q (.bl (!decide (i = j))) h) : okR (neO (.bl i) (.bl j) h) Q E := ⟨q⟩
theorem wp_eq {x y : MV} {b : Bool} (e : eqB h x y = some b) (q : Q (.bl b) h) : okR (eqO x y h) Q E := by unfold eqO; rw [e]; exact ⟨q⟩
theorem wp_ne {x y : MV} {b : Bool} (e : eqB h x y = some b) (q : Q (.bl (!b)) h) : okR (neO x y h) Q E := by unfold neO; rw [e]; exact ⟨q⟩
theorem wp_ixT {xs : List MV} {i : Int} {v : MV} (e : atI xs i = some v) (q : Q v h) : okR (ixO (.tup xs) (.int i) h) Q E := by
  show okR (match atI xs i with | some v => _ | none => _) Q E
  rw [e]; exact ⟨q⟩
theorem wp_ixL {x : MV} {xs : List MV} {i : Int} {v : MV} (hx : lsOf h x = some xs) (e : atI xs i = some v) (q : Q v h) : okR (ixO x (.int i) h) Q E := by
  have : ixO x (.int i) h = .ok v h := by
    cases x with
    | fl ys => unfold ixO; dsimp only; rw [hx]; dsimp only; rw [e]
    | ref n => unfold ixO; dsimp only; rw [hx]; dsimp only; rw [e]
    | _ => cases hx
  rw [this]; exact ⟨q⟩
theorem wp_slT {xs : List MV} {lo hi} (q : Q (.tup (cutM xs lo hi)) h) : okR (slO (.tup xs) lo hi h) Q E := ⟨q⟩
theorem wp_slF {xs : List MV} {lo hi} (q : Q (.fl (cutM xs lo hi)) h) : okR (slO (.fl xs) lo hi h) Q E := ⟨q⟩
theorem wp_slLF {xs : List MV} {lo hi} (q : QL (cutM xs lo hi) h) : okR (slL (.fl xs) lo hi h) QL E := ⟨q⟩
theorem wp_slLR {n : Nat} {xs : List MV} {lo hi} (e : h[n]? = some (.lst xs)) (q : QL (cutM xs lo hi) h) : okR (slL (.ref n) lo hi h) QL E := by
  have : lsOf h (.ref n) = some xs := by unfold lsOf; dsimp only; rw [e]
  unfold slL; rw [this]; exact ⟨q⟩
theorem wp_revT {xs : List MV} (q : Q (.tup xs.reverse) h) : okR (revO (.tup xs) h) Q E := ⟨q⟩
theorem wp_revF {xs : List MV} (q : Q (.fl xs.reverse) h) : okR (revO (.fl xs) h) Q E := ⟨q⟩
theorem lsOf_cell {n : Nat} {xs : List MV} (e : h[n]? = some (.lst xs)) : lsOf h (.ref n) = some xs := by unfold lsOf; dsimp only; rw [e]
theorem wp_lenT {xs : List MV} (q : Q (.int xs.length) h) : okR (lenC [.tup xs] h) Q E := ⟨q⟩
theorem wp_lenF {xs : List MV} (q : Q (.int xs.length) h) : okR (lenC [.fl xs] h) Q E := ⟨q⟩
theorem wp_lenR {n : Nat} {xs : List MV} (e : h[n]? = some (.lst xs)) (q : Q (.int xs.length) h) : okR (lenC [.ref n] h) Q E := by
  show okR (match lsOf h (.ref n) with | some ys => _ | none => _) Q E
  rw [lsOf_cell e]; exact ⟨q⟩
theorem wp_max {i j : Int} (q : Q (.int (if j > i then j else i)) h) : okR (maxC [.int i, .int j] h) Q E := ⟨q⟩
theorem wp_min {i j : Int} (q : Q (.int (if j < i then j else i)) h) : okR (minC [.int i, .int j] h) Q E := ⟨q⟩
theorem wp_abs {i : Int} (q : Q (.int (if i < 0 then -i else i)) h) : okR (absC [.int i] h) Q E := ⟨q⟩
theorem wp_intI {i : Int} (q : Q (.int i) h) : okR (intC [.int i] h) Q E := ⟨q⟩
theorem wp_intB {i : Bool} (q : Q (.int (if i then 1 else 0)) h) : okR (intC [.bl i] h) Q E := ⟨q⟩
@[simp] theorem blsOf_map {β : Type} (f : β → Bool) : ∀ xs : List β, blsOf (xs.map fun x => MV.bl (f x)) = some (xs.map f)
  | [] => rfl
  | x :: xs => by rw [List.map_cons]; unfold blsOf; rw [blsOf_map f xs]; rfl
@[simp] theorem intsOf_map {β : Type} (f : β → Int) : ∀ xs : List β, intsOf (xs.map fun x => MV.int (f x)) = some (xs.map f)
  | [] => rfl
  | x :: xs => by rw [List.map_cons]; unfold intsOf; rw [intsOf_map f xs]; rfl
theorem wp_allF {xs : List MV} {bs : List Bool} (e : blsOf xs = some bs) (q : Q (.bl (bs.all id)) h) : okR (allC [.fl xs] h) Q E := by
  show okR (match blsOf xs with | some bs => _ | none => _) Q E
  rw [e]; exact ⟨q⟩
theorem wp_anyF {xs : List MV} {bs : List Bool} (e : blsOf xs = some bs) (q : Q (.bl (bs.any id)) h) : okR (anyC [.fl xs] h) Q E := by
  show okR (match blsOf xs with | some bs => _ | none => _) Q E
  rw [e]; exact ⟨q⟩
theorem wp_sumF {xs : List MV} {bs : List Int} (e : intsOf xs = some bs) (q : Q (.int bs.sum) h) : okR (sumC [.fl xs] h) Q E := by
  show okR (match intsOf xs with | some bs => _ | none => _) Q E
  rw [e]; exact ⟨q⟩
theorem wp_tupT {xs : List MV} (q : Q (.tup xs) h) : okR (tupC [.tup xs] h) Q E := ⟨q⟩
theorem wp_tupF {xs : List MV} (q : Q (.tup xs) h) : okR (tupC [.fl xs] h) Q E := ⟨q⟩
theorem wp_tupR {n : Nat} {xs : List MV} (e : h[n]? = some (.lst xs)) (q : Q (.tup xs) h) : okR (tupC [.ref n] h) Q E := by
  show okR (match lsOf h (.ref n) with | some ys => _ | none => _) Q E
  rw [lsOf_cell e]; exact ⟨q⟩
theorem wp_lstT {xs : List MV} (q : QL xs h) : okR (lstL [.tup xs] h) QL E := ⟨q⟩
theorem wp_lstF {xs : List MV} (q : QL xs h) : okR (lstL [.fl xs] h) QL E := ⟨q⟩
theorem wp_lstR {n : Nat} {xs : List MV} (e : h[n]? = some (.lst xs)) (q : QL xs h) : okR (lstL [.ref n] h) QL E := by
  show okR (match lsOf h (.ref n) with | some ys => _ | none => _) QL E
  rw [lsOf_cell e]; exact ⟨q⟩
theorem wp_itT {xs : List MV} (q : QL xs h) : okR (itO (.tup xs) h) QL E := ⟨q⟩
theorem wp_itF {xs : List MV} (q : QL xs h) : okR (itO (.fl xs) h) QL E := ⟨q⟩
theorem wp_rg1 {j : Int} (hj : -(2 ^ 62) ≤ j ∧ j < 2 ^ 62) (q : QL (rgMV 0 j.toNat) h) : okR (rg1 [.int j] h) QL E := by
  show okR (if _ then _ else _) QL E
  exact wp_ite_t hj ⟨q⟩
theorem wp_rg2 {i j : Int} (hj : -(2 ^ 62) ≤ i ∧ i < 2 ^ 62 ∧ -(2 ^ 62) ≤ j ∧ j < 2 ^ 62) (q : QL (rgMV i (j - i).toNat) h) : okR (rg2 [.int i, .int j] h) QL E := by
  show okR (if _ then _ else _) QL E
  exact wp_ite_t hj ⟨q⟩
theorem wp_zipT {a b : List MV} (q : QL (zipMV a b) h) : okR (zipL [.tup a, .tup b] h) QL E := ⟨q⟩
theorem wp_zipF {a b : List MV} (q : QL (zipMV a b) h) : okR (zipL [.fl a, .fl b] h) QL E := ⟨q⟩
theorem wp_enumF {a : List MV} (q : QL (enumMV a) h) : okR (enumL [.fl a] h) QL E := ⟨q⟩
theorem isCell_of {n : Nat} {xs : List MV} (e : h[n]? = some (.lst xs)) : isCell h (.ref n) = true := by unfold isCell; dsimp only; rw [e]
theorem wp_app {n : Nat} {xs : List MV} {v : MV} (e : h[n]? = some (.lst xs)) (hl : xs.length < 16777216) (q : Q .non (h.set n (.lst (xs ++ [v])))) : okR (appO (.ref n) v h) Q E := by
  unfold appO; dsimp only; rw [e]; dsimp only; exact wp_ite_t hl ⟨q⟩
theorem wp_set_ {n : Nat} {xs : List MV} {i : Int} {j : Nat} {v : MV} {QU : Unit → MH → Prop} (e : h[n]? = some (.lst xs)) (hj : ixN xs.length i = some j) (q : QU () (h.set n (.lst (xs.set j v)))) : okR (setO (.ref n) (.int i) v h) QU E := by
  unfold setO; dsimp only; rw [e]; dsimp only; rw [hj]; exact ⟨q⟩
/-! runs -/
theorem wp_run {N n : Nat} {body : MSt} {xs : List MV} (o : okS (body (xs.map some ++ List.replicate (N - n) none) h) (fun _ h => Q .non h) ⟨Q, fun _ _ => False, fun _ _ => False, fun c fs _ h => E c fs h⟩) : okR (mRun N n body xs h) Q E := by
  unfold mRun
  revert o
  cases body (xs.map some ++ List.replicate (N - n) none) h <;> exact fun o => ⟨o.out⟩
theorem wp_drop {mf : List MV → MH → MR MV} {xs : List MV} (o : okR (mf xs h) (fun v h' => DropOk h h' [thaw h.length h' v] ∧ Q (thaw h.length h' v) (h'.take h.length)) fun c fs h' => DropOk h h' (fs.map (·.2)) ∧ E c fs (h'.take h.length)) : okR (mDrop mf xs h) Q E := by
  unfold mDrop
  revert o
  cases mf xs h with
  | ok v h' => exact fun o => by dsimp only; rw [if_pos o.out.1]; exact ⟨o.out.2⟩
  | exn c fs h' => exact fun o => by dsimp only; rw [if_pos o.out.1]; exact ⟨o.out.2⟩
  | stuck => exact fun o => o.out.elim
/-- nothing of the old changed -/
theorem wp_drop0 {mf : List MV → MH → MR MV} {xs : List MV} (o : okR (mf xs h) (fun v h' => ∃ s, h' = h ++ s ∧ refsLt h.length v = true ∧ Q v h) fun c fs h' => ∃ s, h' = h ++ s ∧ refsLts h.length (fs.map (·.2)) = true ∧ E c fs h) : okR (mDrop mf xs h) Q E := by
  refine wp_drop (okR_mono o ?_ ?_)
  · rintro v h' ⟨s, rfl, hr, q⟩
    rw [thaw_id hr]
    refine ⟨⟨by unfold refsLts; rw [hr]; rfl, by simp, fun i o hi e => .inl (by rwa [List.getElem?_append_left hi] at e)⟩, by simpa using q⟩
  · rintro c fs h' ⟨s, rfl, hr, q⟩
    exact ⟨⟨hr, by simp, fun i o hi e => .inl (by rwa [List.getElem?_append_left hi] at e)⟩, by simpa using q⟩
/-- one cell of the old changed -/
theorem wp_drop1 {g t : MH} {u : MO} {mf : List MV → MH → MR MV} {xs : List MV} (o : okR (mf xs (g ++ u :: t)) (fun v h' => ∃ u' s, h' = g ++ u' :: (t ++ s) ∧ refsLt (g.length + (t.length + 1)) v = true ∧ cellLt (g.length + (t.length + 1)) u' = true ∧ Q v (g ++ u' :: t))
      fun c fs h' => ∃ u' s, h' = g ++ u' :: (t ++ s) ∧ refsLts (g.length + (t.length + 1)) (fs.map (·.2)) = true ∧ cellLt (g.length + (t.length + 1)) u' = true ∧ E c fs (g ++ u' :: t)) : okR (mDrop mf xs (g ++ u :: t)) Q E := by
  have hl : ∀ (u' : MO) (s : MH), (g ++ u' :: (t ++ s)) = (g ++ u' :: t) ++ s := fun u' s => by simp
  have hlen : ∀ (u' : MO), (g ++ u' :: t).length = g.length + (t.length + 1) := fun u' => by simp
  have main : ∀ (u' : MO) (s : MH), cellLt (g.length + (t.length + 1)) u' = true → ∀ i o, i < (g ++ u :: t).length → (g ++ u' :: (t ++ s))[i]? = some o → (g ++ u :: t)[i]? = some o ∨ cellLt (g ++ u :: t).length o = true := by
    intro u' s hu i o hi e
    rw [hl, List.getElem?_append_left (by rw [hlen] at hi ⊢; exact hi)] at e
    rw [hlen]
    by_cases h1 : i < g.length
    · rw [List.getElem?_append_left h1] at e ⊢; exact .inl e
    · rw [List.getElem?_append_right (by omega)] at e ⊢
      cases hk : i - g.length with
      | zero => rw [hk] at e; simp at e; subst e; exact .inr hu
      | succ k => rw [hk] at e; simp at e; left; simpa using e
  refine wp_drop (okR_mono o ?_ ?_)
  · rintro v h' ⟨u', s, rfl, hr, hu, q⟩
    rw [thaw_id (by rw [hlen]; exact hr)]
    refine ⟨⟨by rw [hlen]; unfold refsLts; rw [hr]; rfl, by simp, main u' s hu⟩, ?_⟩
    rw [hl, List.take_append_of_le_length (by simp), List.take_of_length_le (by simp)]; exact q
  · rintro c fs h' ⟨u', s, rfl, hr, hu, q⟩
    refine ⟨⟨by rw [hlen]; exact hr, by simp, main u' s hu⟩, ?_⟩
    rw [hl, List.take_append_of_le_length (by simp), List.take_of_length_le (by simp)]; exact q
end
/-- nothing of the old changed; what comes is a new list, a fixed one from now on -/
theorem wp_dropL0 {h : MH} {E : PE'} {Q : MV → MH → Prop} {mf : List MV → MH → MR MV} {xs : List MV} (o : okR (mf xs h) (fun v h' => ∃ s n ys, h' = h ++ s ∧ v = .ref n ∧ h.length ≤ n ∧ h'[n]? = some (.lst ys) ∧ refsLts h.length ys = true ∧ Q (.fl ys) h) fun c fs h' => ∃ s, h' = h ++ s ∧ refsLts h.length (fs.map (·.2)) = true ∧ E c fs h) : okR (mDrop mf xs h) Q E := by
  refine wp_drop (okR_mono o ?_ ?_)
  · rintro v h' ⟨s, n, ys, rfl, rfl, hn, hy, hr, q⟩
    have e : thaw h.length (h ++ s) (.ref n) = .fl ys := by unfold thaw; dsimp only; rw [if_neg (by omega), hy]
    rw [e]
    exact ⟨⟨by unfold refsLts refsLt; rw [hr]; rfl, by simp, fun i o hi e => .inl (by rwa [List.getElem?_append_left hi] at e)⟩, by simpa using q⟩
  · rintro c fs h' ⟨s, rfl, hr, q⟩
    exact ⟨⟨hr, by simp, fun i o hi e => .inl (by rwa [List.getElem?_append_left hi] at e)⟩, by simpa using q⟩
/-! the heap around one cell -/
@[simp] theorem mid_get {α : Type} (g t : List α) (u : α) : (g ++ u :: t)[g.length]? = some u := by rw [List.getElem?_append_right (Nat.le_refl _)]; simp
@[simp] theorem mid_set {α : Type} (g t : List α) (u v : α) : (g ++ u :: t).set g.length v = g ++ v :: t := by rw [List.set_append_right _ _ (Nat.le_refl _)]; simp
@[simp] theorem refsLts_map {β : Type} (n : Nat) (f : β → MV) (hf : ∀ x, refsLt n (f x) = true) : ∀ xs : List β, refsLts n (xs.map f) = true
  | [] => rfl
  | x :: xs => by rw [List.map_cons]; unfold refsLts; rw [hf, refsLts_map n f hf xs]; rfl
end ML
namespace ML
open PySem PySem.Spec PyProof.Rows L2
/-! branches -/
def okB (c : Bool) (A B : Prop) : Prop := (c = true → A) ∧ (c = false → B)
section
variable {A B : Prop} {c : Prop} [Decidable c]
theorem okB_t (a : A) : okB true A B := ⟨fun _ => a, fun h => by cases h⟩
theorem okB_f (b : B) : okB false A B := ⟨fun h => (by cases h), fun _ => b⟩
theorem okB_dt (hc : c) (a : A) : okB (decide c) A B := ⟨fun _ => a, fun h => absurd hc (of_decide_eq_false h)⟩
theorem okB_df (hc : ¬c) (b : B) : okB (decide c) A B := ⟨fun h => absurd (of_decide_eq_true h) hc, fun _ => b⟩
theorem okB_nt (hc : ¬c) (a : A) : okB (!decide c) A B := by rw [decide_eq_false hc]; exact okB_t a
theorem okB_nf (hc : c) (b : B) : okB (!decide c) A B := by rw [decide_eq_true hc]; exact okB_f b
theorem okB_d (a : c → A) (b : ¬c → B) : okB (decide c) A B := ⟨fun h => a (of_decide_eq_true h), fun h => b (of_decide_eq_false h)⟩
theorem okB_n (a : ¬c → A) (b : c → B) : okB (!decide c) A B := by
  by_cases h : c
  · rw [decide_eq_true h]; exact okB_f (b h)
  · rw [decide_eq_false h]; exact okB_t (a h)
theorem okB_b {b : Bool} (h1 : b = true → A) (h2 : b = false → B) : okB b A B := ⟨h1, h2⟩
theorem okB_nn {b : Bool} (h : okB b A B) : okB (!(!b)) A B := by rw [Bool.not_not]; exact h
end
section
variable {α : Type} {l : Loc} {h : MH} {N : Loc → MH → Prop} {P : Po} {E : PE'} {Q : MV → MH → Prop} {QB : Bool → MH → Prop}
theorem wq_ifS {c : MBx} {a b : MSt} (o : okR (c l h) (fun k h1 => okB k (okS (a l h1) N P) (okS (b l h1) N P)) fun c fs h => P.E c fs l h) : okS (mIfS c a b l h) N P :=
  okR_toS (okR_mono o (fun k h1 q => by cases k; exact q.2 rfl; exact q.1 rfl) fun _ _ _ q => q)
theorem wq_and {a b : MBx} (o : okR (a l h) (fun c h1 => okB c (okR (b l h1) QB E) (QB false h1)) E) : okR (mAnd a b l h) QB E := wp_and o
theorem wq_or {a b : MBx} (o : okR (a l h) (fun c h1 => okB c (QB true h1) (okR (b l h1) QB E)) E) : okR (mOr a b l h) QB E := wp_or o
theorem wq_andV {a : MBx} {b : MEx} (o : okR (a l h) (fun c h1 => okB c (okR (b l h1) Q E) (Q (.bl false) h1)) E) : okR (mAndV a b l h) Q E := wp_andV o
theorem wq_orV {a : MBx} {b : MEx} (o : okR (a l h) (fun c h1 => okB c (Q (.bl true) h1) (okR (b l h1) Q E)) E) : okR (mOrV a b l h) Q E := wp_orV o
theorem wq_if {c : MBx} {a b : MEx} (o : okR (c l h) (fun k h1 => okB k (okR (a l h1) Q E) (okR (b l h1) Q E)) E) : okR (mIf c a b l h) Q E :=
  okR_bind (okR_mono o (fun k h1 q => by cases k; exact q.2 rfl; exact q.1 rfl) fun _ _ _ q => q)
end
end ML
namespace ML
open PySem PySem.Spec PyProof.Rows L2
/-! own cells behind the urn -/
theorem loc_get {α : Type} (g t s : List α) (u c : α) : (g ++ u :: (t ++ c :: s))[g.length + (t.length + 1)]? = some c := by
  rw [List.getElem?_append_right (by omega)]; simp
theorem loc_set {α : Type} (g t s : List α) (u c v : α) : (g ++ u :: (t ++ c :: s)).set (g.length + (t.length + 1)) v = g ++ u :: (t ++ v :: s) := by
  rw [List.set_append_right _ _ (by omega)]; simp
section
variable {α : Type} {h : MH} {E : PE'} {Q : MV → MH → Prop} {QL : List MV → MH → Prop} {n : Nat} {xs : List MV}
theorem wp_ixR {i : Int} {v : MV} (e : h[n]? = some (.lst xs)) (e2 : atI xs i = some v) (q : Q v h) : okR (ixO (.ref n) (.int i) h) Q E := wp_ixL (lsOf_cell e) e2 q
theorem wp_slR {lo hi} (e : h[n]? = some (.lst xs)) (q : Q (.fl (cutM xs lo hi)) h) : okR (slO (.ref n) lo hi h) Q E := by
  unfold slO; dsimp only; rw [lsOf_cell e]; exact ⟨q⟩
theorem wp_ixF {i : Int} {v : MV} (e2 : atI xs i = some v) (q : Q v h) : okR (ixO (.fl xs) (.int i) h) Q E := wp_ixL rfl e2 q
end
theorem ixN_nat {n k : Nat} (h : k < n) : ixN n (k : Int) = some k := by
  unfold ixN; rw [if_pos (by omega), if_pos (by omega)]; simp
theorem ixN_0 {n : Nat} (h : 0 < n) : ixN n 0 = some 0 := ixN_nat (k := 0) h
theorem ixN_1 {n : Nat} (h : 1 < n) : ixN n 1 = some 1 := ixN_nat (k := 1) h
theorem ixN_2 {n : Nat} (h : 2 < n) : ixN n 2 = some 2 := ixN_nat (k := 2) h
theorem atI_nat {α : Type} (xs : List α) (k : Nat) : atI xs (k : Int) = xs[k]? := by
  unfold atI
  by_cases h : k < xs.length
  · rw [ixN_nat h]; rfl
  · unfold ixN; rw [if_pos (by omega), if_neg (by omega), List.getElem?_eq_none (by omega)]; rfl
theorem atI_pos {α : Type} {xs : List α} {i : Int} (h : 0 ≤ i) : atI xs i = xs[i.toNat]? := by
  rw [← atI_nat, Int.toNat_of_nonneg h]
theorem atI_neg {α : Type} {xs : List α} {i : Int} (h : i < 0) (h2 : -(xs.length : Int) ≤ i) : atI xs i = xs[(i + xs.length).toNat]? := by
  unfold atI ixN; rw [if_neg (by omega), if_pos h2]; rfl
theorem atI_0 {α : Type} {a : α} {xs : List α} : atI (a :: xs) 0 = some a := atI_nat _ 0
theorem atI_1 {α : Type} {a b : α} {xs : List α} : atI (a :: b :: xs) 1 = some b := atI_nat _ 1
theorem atI_2 {α : Type} {a b c : α} {xs : List α} : atI (a :: b :: c :: xs) 2 = some c := atI_nat _ 2
theorem atI_3 {α : Type} {a b c d : α} {xs : List α} : atI (a :: b :: c :: d :: xs) 3 = some d := atI_nat _ 3
theorem atI_map {α β : Type} (f : α → β) (xs : List α) (i : Int) : atI (xs.map f) i = (atI xs i).map f := by
  unfold atI; rw [List.length_map]
  cases ixN xs.length i with
  | none => rfl
  | some j => simp
theorem log2_lt {a k : Nat} (h : a < 2 ^ (k + 1)) : a.log2 ≤ k := by
  by_cases h0 : a = 0
  · subst h0; simp [Nat.log2_zero]
  · have := (Nat.log2_lt h0).mpr h
    omega
theorem mulOk_big {i j : Int} (h1 : -(10 ^ 150) ≤ i) (h2 : i ≤ 10 ^ 150) (h3 : -(10 ^ 150) ≤ j) (h4 : j ≤ 10 ^ 150) : MulOk i j := by
  refine .inr (.inr ?_)
  have a : i.natAbs.log2 ≤ 511 := log2_lt (by omega)
  have b : j.natAbs.log2 ≤ 511 := log2_lt (by omega)
  omega
section
variable {h : MH} {E : PE'} {Q : MV → MH → Prop}
theorem wp_fdivS {i j : Int} (hj : 0 < j) (hj2 : j < 2 ^ 600) (q : Q (.int (i / j)) h) : okR (fdivO (.int i) (.int j) h) Q E := by
  refine wp_fdiv ⟨hj, ?_⟩ q
  have : j.natAbs.log2 ≤ 599 := log2_lt (by omega)
  omega
theorem wp_mulS {i j : Int} (h1 : -(10 ^ 150) ≤ i) (h2 : i ≤ 10 ^ 150) (h3 : -(10 ^ 150) ≤ j) (h4 : j ≤ 10 ^ 150) (q : Q (.int (i * j)) h) : okR (mulO (.int i) (.int j) h) Q E := wp_mul (mulOk_big h1 h2 h3 h4) q
theorem wp_mulL {i j : Int} (h1 : -(2 ^ 64) < i ∧ i < 2 ^ 64) (q : Q (.int (i * j)) h) : okR (mulO (.int i) (.int j) h) Q E := wp_mul (.inl h1) q
theorem wp_mulR {i j : Int} (h1 : -(2 ^ 64) < j ∧ j < 2 ^ 64) (q : Q (.int (i * j)) h) : okR (mulO (.int i) (.int j) h) Q E := wp_mul (.inr (.inl h1)) q
end
end ML
namespace ML
open PySem PySem.Spec PyProof.Rows L2
theorem wq_while {l : Loc} {h : MH} {N : Loc → MH → Prop} {P : Po} {c : MBx} {b : MSt} (I : Nat → Loc → MH → Prop) (m : Nat) (h0 : I m l h)
    (step : ∀ k l h, I k l h → okR (c l h) (fun t h1 => okB t (∃ k', k = k' + 1 ∧ okS (b l h1) (I k') { P with B := N, C := I k' }) (N l h1)) fun c fs h => P.E c fs l h) : okS (mWhile c b l h) N P :=
  wp_while I m h0 fun k l h i => okR_mono (step k l h i) (fun t h1 q => by cases t; exact q.2 rfl; exact q.1 rfl) fun _ _ _ q => q
end ML
namespace ML
open PySem PySem.Spec PyProof.Rows L2
theorem okS_cut {r : MS} {N : Loc → MH → Prop} {P : Po} (M : Loc → MH → Prop) (o : okS r M P) (h : ∀ l h, M l h → N l h) : okS r N P := okS_mono o h (fun _ _ q => q) (fun _ _ q => q) (fun _ _ q => q) fun _ _ _ _ q => q
theorem okR_cut {α : Type} {r : MR α} {Q : α → MH → Prop} {E : PE'} (M : α → MH → Prop) (o : okR r M E) (h : ∀ a h, M a h → Q a h) : okR r Q E := okR_mono o h fun _ _ _ q => q
end ML
namespace ML
open PySem PySem.Spec PyProof.Rows L2
theorem wp_isiK {h : MH} {E : PE'} {Q : MV → MH → Prop} {T t : String} {x : MV} {b : Bool} (e1 : tyN h x = some t) (e2 : kitB t T = some b) (q : Q (.bl b) h) : okR (isiV T x h) Q E := wp_isiV (by rw [e1]; exact e2) q
theorem okB_nT {A B : Prop} (b : B) : okB (!true) A B := okB_f b
theorem okB_nF {A B : Prop} (a : A) : okB (!false) A B := okB_t a
end ML

set_option maxRecDepth 100000
/-! ML10: data, parts of lists. -/
namespace ML
open PySem PySem.Spec PyProof.Rows L2
mutual
/-- data without bool, at most n deep -/
def datN : Nat → MV → Bool
  | _, .non => true
  | _, .int _ => true
  | _, .str x => PyData.canLay0 (.str x)
  | n + 1, .tup xs => datNs n xs
  | n + 1, .fl xs => datNs n xs
  | _, _ => false
def datNs : Nat → List MV → Bool
  | _, [] => true
  | n, x :: xs => datN n x && datNs n xs
end
mutual
theorem dat_toD : ∀ (x : MV) (n : Nat), datN n x = true → ∃ d, toD x = some d ∧ d.canLay0 = true ∧ d.depth ≤ n
  | .non, n, h => ⟨_, rfl, rfl, by unfold PyData.depth; exact Nat.zero_le _⟩
  | .int _, n, h => ⟨_, rfl, rfl, by unfold PyData.depth; exact Nat.zero_le _⟩
  | .str x, n, h => by
    cases n with
    | zero => exact ⟨_, rfl, h, by unfold PyData.depth; exact Nat.zero_le _⟩
    | succ n => exact ⟨_, rfl, h, by unfold PyData.depth; exact Nat.zero_le _⟩
  | .bl _, 0, h => by cases h
  | .bl _, n + 1, h => by cases h
  | .ref _, 0, h => by cases h
  | .ref _, n + 1, h => by cases h
  | .glo _, 0, h => by cases h
  | .glo _, n + 1, h => by cases h
  | .tup xs, 0, h => by cases h
  | .fl xs, 0, h => by cases h
  | .tup xs, n + 1, h => by
    obtain ⟨ds, e, h1, h2⟩ := dats_toDs xs n (by unfold datN at h; exact h)
    exact ⟨.tuple ds, by unfold toD; rw [e]; rfl, by unfold PyData.canLay0; exact h1, by unfold PyData.depth; omega⟩
  | .fl xs, n + 1, h => by
    obtain ⟨ds, e, h1, h2⟩ := dats_toDs xs n (by unfold datN at h; exact h)
    exact ⟨.list ds, by unfold toD; rw [e]; rfl, by unfold PyData.canLay0; exact h1, by unfold PyData.depth; omega⟩
theorem dats_toDs : ∀ (xs : List MV) (n : Nat), datNs n xs = true → ∃ ds, toDs xs = some ds ∧ PyData.canLayAll0 ds = true ∧ PyData.depthAll ds ≤ n
  | [], n, h => ⟨[], rfl, rfl, by unfold PyData.depthAll; exact Nat.zero_le _⟩
  | x :: xs, n, h => by
    have h' : datN n x = true ∧ datNs n xs = true := by unfold datNs at h; simpa using h
    obtain ⟨d, e1, c1, l1⟩ := dat_toD x n h'.1
    obtain ⟨ds, e2, c2, l2⟩ := dats_toDs xs n h'.2
    exact ⟨d :: ds, by unfold toDs; rw [e1, e2]; rfl, by unfold PyData.canLayAll0; rw [c1, c2]; rfl, by unfold PyData.depthAll; omega⟩
end
mutual
theorem eqv_iff' : ∀ (x y : MV) (n m : Nat) (d e : PyData), datN n x = true → datN m y = true → toD x = some d → toD y = some e → (PyData.eqv d e = true ↔ x = y)
  | x, y, n, m, d, e, hx, hy, ex, ey => by
    cases x with
    | bl b => cases n <;> cases hx
    | ref b => cases ex
    | glo b => cases ex
    | non => cases ex; cases y <;> first | (cases m <;> cases hy; done) | (cases ey; simp [PyData.eqv]; done) | (unfold toD at ey; obtain ⟨ds, e1, rfl⟩ := Option.map_eq_some_iff.mp ey; simp [PyData.eqv])
    | int i => cases ex; cases y <;> first | (cases m <;> cases hy; done) | (cases ey; simp [PyData.eqv]; done) | (unfold toD at ey; obtain ⟨ds, e1, rfl⟩ := Option.map_eq_some_iff.mp ey; simp [PyData.eqv])
    | str i => cases ex; cases y <;> first | (cases m <;> cases hy; done) | (cases ey; simp [PyData.eqv]; done) | (unfold toD at ey; obtain ⟨ds, e1, rfl⟩ := Option.map_eq_some_iff.mp ey; simp [PyData.eqv])
    | tup xs =>
      cases n with
      | zero => cases hx
      | succ n =>
        have hx' : datNs n xs = true := by unfold datN at hx; exact hx
        unfold toD at ex
        obtain ⟨ds, e1, rfl⟩ := Option.map_eq_some_iff.mp ex
        cases y with
        | tup ys =>
          cases m with
          | zero => cases hy
          | succ m =>
            have hy' : datNs m ys = true := by unfold datN at hy; exact hy
            unfold toD at ey
            obtain ⟨es, e2, rfl⟩ := Option.map_eq_some_iff.mp ey
            unfold PyData.eqv
            rw [eqvs_iff xs ys n m ds es hx' hy' e1 e2]
            simp
        | fl ys => unfold toD at ey; obtain ⟨es, e2, rfl⟩ := Option.map_eq_some_iff.mp ey; simp [PyData.eqv]
        | bl b => cases m <;> cases hy
        | ref b => cases ey
        | glo b => cases ey
        | non => cases ey; simp [PyData.eqv]
        | int b => cases ey; simp [PyData.eqv]
        | str b => cases ey; simp [PyData.eqv]
    | fl xs =>
      cases n with
      | zero => cases hx
      | succ n =>
        have hx' : datNs n xs = true := by unfold datN at hx; exact hx
        unfold toD at ex
        obtain ⟨ds, e1, rfl⟩ := Option.map_eq_some_iff.mp ex
        cases y with
        | fl ys =>
          cases m with
          | zero => cases hy
          | succ m =>
            have hy' : datNs m ys = true := by unfold datN at hy; exact hy
            unfold toD at ey
            obtain ⟨es, e2, rfl⟩ := Option.map_eq_some_iff.mp ey
            unfold PyData.eqv
            rw [eqvs_iff xs ys n m ds es hx' hy' e1 e2]
            simp
        | tup ys => unfold toD at ey; obtain ⟨es, e2, rfl⟩ := Option.map_eq_some_iff.mp ey; simp [PyData.eqv]
        | bl b => cases m <;> cases hy
        | ref b => cases ey
        | glo b => cases ey
        | non => cases ey; simp [PyData.eqv]
        | int b => cases ey; simp [PyData.eqv]
        | str b => cases ey; simp [PyData.eqv]
theorem eqvs_iff : ∀ (xs ys : List MV) (n m : Nat) (ds es : List PyData), datNs n xs = true → datNs m ys = true → toDs xs = some ds → toDs ys = some es → (PyData.eqvAll ds es = true ↔ xs = ys)
  | [], [], _, _, _, _, _, _, e1, e2 => by cases e1; cases e2; simp [PyData.eqvAll]
  | [], y :: ys, _, _, _, _, _, _, e1, e2 => by
    cases e1
    unfold toDs at e2
    obtain ⟨d, q1, q2⟩ := Option.bind_eq_some_iff.mp e2
    obtain ⟨ds, q3, rfl⟩ := Option.map_eq_some_iff.mp q2
    simp [PyData.eqvAll]
  | x :: xs, [], _, _, _, _, _, _, e2, e1 => by
    cases e1
    unfold toDs at e2
    obtain ⟨d, q1, q2⟩ := Option.bind_eq_some_iff.mp e2
    obtain ⟨ds, q3, rfl⟩ := Option.map_eq_some_iff.mp q2
    simp [PyData.eqvAll]
  | x :: xs, y :: ys, n, m, _, _, hx, hy, e1, e2 => by
    have hx' : datN n x = true ∧ datNs n xs = true := by unfold datNs at hx; simpa using hx
    have hy' : datN m y = true ∧ datNs m ys = true := by unfold datNs at hy; simpa using hy
    unfold toDs at e1 e2
    obtain ⟨d, q1, q2⟩ := Option.bind_eq_some_iff.mp e1
    obtain ⟨ds, q3, rfl⟩ := Option.map_eq_some_iff.mp q2
    obtain ⟨d', p1, p2⟩ := Option.bind_eq_some_iff.mp e2
    obtain ⟨ds', p3, rfl⟩ := Option.map_eq_some_iff.mp p2
    unfold PyData.eqvAll
    rw [Bool.and_eq_true, eqv_iff' x y n m d d' hx'.1 hy'.1 q1 p1, eqvs_iff xs ys n m ds ds' hx'.2 hy'.2 q3 p3]
    simp
end
theorem scalM_iff {x y : MV} {b : Bool} {n m : Nat} (hx : datN n x = true) (hy : datN m y = true) (e : scalM x y = some b) : (b = true ↔ x = y) := by
  unfold scalM at e
  split at e <;> first
    | (cases e; simp; done)
    | (cases n <;> cases hx; done)
    | (cases m <;> cases hy; done)
    | (cases e; done)
theorem toD0_dat {h : MH} {x : MV} {n : Nat} (hx : datN n x = true) : toD0 h x = toD x := by
  unfold toD0
  split
  · cases n <;> cases hx
  · rfl
theorem eqB_dat {h : MH} {x y : MV} (hx : datN 64 x = true) (hy : datN 64 y = true) : ∃ b, eqB h x y = some b ∧ (b = true ↔ x = y) := by
  unfold eqB
  cases e : scalM x y with
  | some b => exact ⟨b, rfl, scalM_iff hx hy e⟩
  | none =>
    dsimp only
    rw [toD0_dat hx, toD0_dat hy]
    obtain ⟨d, e1, c1, l1⟩ := dat_toD x 64 hx
    obtain ⟨d', e2, c2, l2⟩ := dat_toD y 64 hy
    rw [e1, e2]
    dsimp only
    have s1 : SeqAt.shaped d = true := by unfold SeqAt.shaped; rw [c1]; simpa using l1
    have s2 : SeqAt.shaped d' = true := by unfold SeqAt.shaped; rw [c2]; simpa using l2
    rw [if_pos ⟨s1, s2⟩]
    exact ⟨_, rfl, eqv_iff' x y 64 64 d d' hx hy e1 e2⟩
theorem eqB_dec {h : MH} {x y : MV} {p : Prop} [Decidable p] (hx : datN 64 x = true) (hy : datN 64 y = true) (hp : x = y ↔ p) : eqB h x y = some (decide p) := by
  obtain ⟨b, e, hb⟩ := eqB_dat (h := h) hx hy
  rw [e]
  congr 1
  rw [hp] at hb
  cases b with
  | true => rw [decide_eq_true (hb.mp rfl)]
  | false =>
    symm
    apply decide_eq_false
    intro q
    exact absurd (hb.mpr q) (by simp)
/-- a cell's list, compared as data -/
theorem eqB_cellL {h : MH} {n : Nat} {xs : List MV} {y : MV} (e : h[n]? = some (.lst xs)) (hy : ∀ m, y ≠ .ref m) (hn : y ≠ .non) : eqB h (.ref n) y = eqB h (.fl xs) y := by
  have h0 : scalM (.ref n) y = none := by cases y <;> first | rfl | exact absurd rfl hn
  have h1 : scalM (.fl xs) y = none := by cases y <;> first | rfl | exact absurd rfl hn
  unfold eqB
  rw [h0, h1]
  dsimp only
  have : toD0 h (.ref n) = toD0 h (.fl xs) := by
    unfold toD0
    dsimp only
    rw [lsOf_cell e]
    show (toDs xs).map .list = toD (.fl xs)
    rw [toD]
  rw [this]
@[simp] theorem datNs_ints (n : Nat) {β : Type} (f : β → Int) : ∀ xs : List β, datNs n (xs.map fun x => MV.int (f x)) = true
  | [] => by unfold datNs; rfl
  | x :: xs => by rw [List.map_cons]; unfold datNs; rw [datNs_ints n f xs]; cases n <;> (unfold datN; rfl)
theorem datNs_map {β : Type} (n : Nat) (f : β → MV) (hf : ∀ x, datN n (f x) = true) : ∀ xs : List β, datNs n (xs.map f) = true
  | [] => by unfold datNs; rfl
  | x :: xs => by rw [List.map_cons]; unfold datNs; rw [hf, datNs_map n f hf xs]; rfl
theorem datNs_iff {n : Nat} : ∀ {xs : List MV}, datNs n xs = true ↔ ∀ x ∈ xs, datN n x = true
  | [] => by unfold datNs; simp
  | x :: xs => by unfold datNs; rw [Bool.and_eq_true, datNs_iff]; simp
@[simp] theorem map_int_inj {xs ys : List Int} : xs.map MV.int = ys.map MV.int ↔ xs = ys := by
  constructor
  · intro h
    have : Function.Injective MV.int := fun a b e => by cases e; rfl
    exact (List.map_inj_right (fun a b e => by cases e; rfl)).mp h
  · intro h; rw [h]
theorem ints_dat (n : Nat) (xs : List Int) : datNs n (xs.map MV.int) = true := datNs_ints n id xs
theorem eqB_intT {h : MH} {xs ys : List Int} : eqB h (.tup (xs.map .int)) (.tup (ys.map .int)) = some (decide (xs = ys)) :=
  eqB_dec (ints_dat 63 xs) (ints_dat 63 ys) (by simp)
theorem eqB_intF {h : MH} {xs ys : List Int} : eqB h (.fl (xs.map .int)) (.fl (ys.map .int)) = some (decide (xs = ys)) :=
  eqB_dec (ints_dat 63 xs) (ints_dat 63 ys) (by simp)
theorem eqB_nilF {h : MH} {xs : List MV} (hd : datNs 63 xs = true) : eqB h (.fl xs) (.fl []) = some (decide (xs.length = 0)) :=
  eqB_dec (by unfold datN; exact hd) rfl (by simp)
theorem eqB_nilT {h : MH} {xs : List MV} (hd : datNs 63 xs = true) : eqB h (.tup xs) (.tup []) = some (decide (xs.length = 0)) :=
  eqB_dec (by unfold datN; exact hd) rfl (by simp)
theorem eqB_nilR {h : MH} {n : Nat} {xs : List MV} (e : h[n]? = some (.lst xs)) (hd : datNs 63 xs = true) : eqB h (.ref n) (.fl []) = some (decide (xs.length = 0)) := by
  rw [eqB_cellL e (fun m h => by cases h) (fun h => by cases h)]
  exact eqB_nilF hd
/-! parts of lists -/
theorem sIx_pos {n d : Nat} {i : Int} (h : 0 ≤ i) : HT.sIx n d (some i) = min i.toNat n := by
  show (if i < 0 then _ else _) = _
  rw [if_neg (by omega)]
theorem sIx_m1 {n d : Nat} : HT.sIx n d (some (-1)) = n - 1 := by
  show (if (-1 : Int) < 0 then (-1 + (n : Int)).toNat else min (-1 : Int).toNat n) = _
  rw [if_pos (by omega)]; omega
theorem cutM_map {α β : Type} (f : α → β) (xs : List α) (lo hi : Option Int) : cutM (xs.map f) lo hi = (cutM xs lo hi).map f := by
  unfold cutM; rw [List.length_map, List.map_take, List.map_drop]
theorem cutM_to {α : Type} (xs : List α) {i : Int} (h : 0 ≤ i) : cutM xs none (some i) = xs.take i.toNat := by
  unfold cutM
  have e1 : HT.sIx xs.length 0 none = 0 := rfl
  have e2 : HT.sIx xs.length xs.length (some i) = min i.toNat xs.length := sIx_pos (by omega)
  rw [e1, e2, List.drop_zero, Nat.sub_zero, Nat.min_comm]
  rw [List.take_eq_take_iff]; omega
theorem cutM_from {α : Type} (xs : List α) {i : Int} (h : 0 ≤ i) : cutM xs (some i) none = xs.drop i.toNat := by
  unfold cutM
  have e1 : HT.sIx xs.length xs.length none = xs.length := rfl
  have e2 : HT.sIx xs.length 0 (some i) = min i.toNat xs.length := sIx_pos (by omega)
  rw [e1, e2]
  by_cases hl : i.toNat ≤ xs.length
  · rw [Nat.min_eq_left hl, List.take_of_length_le (by simp)]
  · rw [Nat.min_eq_right (by omega), List.drop_of_length_le (by omega), List.drop_of_length_le (by omega)]; simp
theorem cutM_mid {α : Type} (xs : List α) {i j : Int} (h : 0 ≤ i) (h2 : 0 ≤ j) : cutM xs (some i) (some j) = (xs.drop i.toNat).take (j.toNat - i.toNat) := by
  unfold cutM
  have e1 : HT.sIx xs.length xs.length (some j) = min j.toNat xs.length := sIx_pos (by omega)
  have e2 : HT.sIx xs.length 0 (some i) = min i.toNat xs.length := sIx_pos (by omega)
  rw [e1, e2]
  by_cases hl : i.toNat ≤ xs.length
  · rw [Nat.min_eq_left hl, List.take_eq_take_iff, List.length_drop]; omega
  · rw [Nat.min_eq_right (a := i.toNat) (b := xs.length) (by omega), List.drop_of_length_le (by omega), List.drop_of_length_le (by omega)]; simp
theorem cutM_last {α : Type} (xs : List α) : cutM xs (some (-1)) none = xs.drop (xs.length - 1) := by
  unfold cutM
  have e1 : HT.sIx xs.length xs.length none = xs.length := rfl
  have e2 : HT.sIx xs.length 0 (some (-1)) = xs.length - 1 := sIx_m1
  rw [e1, e2, List.take_of_length_le (by simp)]
theorem cutM_but {α : Type} (xs : List α) : cutM xs none (some (-1)) = xs.dropLast := by
  unfold cutM
  have e1 : HT.sIx xs.length 0 none = 0 := rfl
  have e2 : HT.sIx xs.length xs.length (some (-1)) = xs.length - 1 := sIx_m1
  rw [e1, e2, List.dropLast_eq_take]; simp
theorem atI_mem {α β : Type} {f : α → β} {xs : List α} {i : Int} (h0 : 0 ≤ i) (h1 : i < xs.length) : ∃ x, x ∈ xs ∧ xs[i.toNat]? = some x ∧ atI (xs.map f) i = some (f x) := by
  have hlt : i.toNat < xs.length := by omega
  refine ⟨xs[i.toNat], List.getElem_mem hlt, List.getElem?_eq_getElem hlt, ?_⟩
  rw [atI_pos h0, List.getElem?_map, List.getElem?_eq_getElem hlt]; rfl
theorem atI_memN {α β : Type} {f : α → β} {xs : List α} {i : Int} (h0 : i < 0) (h1 : -(xs.length : Int) ≤ i) : ∃ x, x ∈ xs ∧ xs[(i + xs.length).toNat]? = some x ∧ atI (xs.map f) i = some (f x) := by
  have hlt : (i + xs.length).toNat < xs.length := by omega
  refine ⟨xs[(i + xs.length).toNat], List.getElem_mem hlt, List.getElem?_eq_getElem hlt, ?_⟩
  rw [atI_neg h0 (by rw [List.length_map]; exact h1), List.length_map, List.getElem?_map, List.getElem?_eq_getElem hlt]; rfl
theorem rgMV_eq (lo : Int) (n : Nat) : rgMV lo n = (List.range n).map fun i => .int (lo + (i : Nat)) := rfl
@[simp] theorem rgMV_length (lo : Int) (n : Nat) : (rgMV lo n).length = n := by unfold rgMV; simp
theorem rgMV_get {lo : Int} {n k : Nat} {x : MV} (e : (rgMV lo n)[k]? = some x) : k < n ∧ x = .int (lo + (k : Nat)) := by
  unfold rgMV at e
  rw [List.getElem?_map] at e
  by_cases h : k < n
  · rw [List.getElem?_range h] at e; simp at e; exact ⟨h, e.symm⟩
  · rw [List.getElem?_eq_none (by simp; omega)] at e; cases e
end ML
namespace ML
open PySem PySem.Spec PyProof.Rows L2
/-! comprehensions -/
section
variable {α : Type} {l : Loc} {h : MH} {E : PE'} {QL : List MV → MH → Prop} {t : Tg} {c : MBx} {e : MEx} {xs : List MV}
/-- with what holds ahead of the k-th turn -/
theorem wp_lcI (I : Nat → List MV → MH → Prop) (h0 : I 0 [] h)
    (step : ∀ k x acc h', xs[k]? = some x → I k acc h' → ∃ l', t.set x l = some l' ∧ okR (c l' h') (fun b h1 => okB b (okR (e l' h1) (fun v h2 => acc.length < 16777216 ∧ I (k + 1) (acc ++ [v]) h2) noE) (I (k + 1) acc h1)) noE)
    (h1 : ∀ acc h', I xs.length acc h' → QL acc h') : okR (lcGo t c e xs [] l h) QL E := by
  suffices H : ∀ (ys : List MV) (k : Nat) (acc : List MV) (l0 : Loc) (h : MH), ys = xs.drop k → k ≤ xs.length → (∀ x, t.set x l0 = t.set x l) → I k acc h → okR (lcGo t c e ys acc l0 h) QL E from H xs 0 [] l h (by simp) (Nat.zero_le _) (fun _ => rfl) h0
  intro ys
  induction ys with
  | nil =>
    intro k acc l0 h e0 hk hl i0
    have : k = xs.length := by
      have := congrArg List.length e0
      simp at this; omega
    subst this
    exact ⟨h1 acc h i0⟩
  | cons y ys ih =>
    intro k acc l0 h e0 hk hl i0
    have hlt : k < xs.length := by
      have := congrArg List.length e0
      simp at this; omega
    have hy : xs[k]? = some y := by
      have := congrArg (·[0]?) e0
      simp at this
      rw [← this]
    have hys : ys = xs.drop (k + 1) := by
      have := congrArg List.tail e0
      simpa using this
    obtain ⟨l', e1, o⟩ := step k y acc h hy i0
    unfold lcGo
    rw [hl, e1]
    dsimp only
    refine okR_bind (okR_mono o ?_ fun _ _ _ z => z.elim)
    rintro b h1 ⟨q1, q2⟩
    cases b with
    | true =>
      refine okR_bind (okR_mono (q1 rfl) ?_ fun _ _ _ z => z.elim)
      rintro v h2 ⟨q3, q4⟩
      rw [if_pos q3]
      exact ih (k + 1) _ l0 h2 hys hlt hl q4
    | false => exact ih (k + 1) _ l0 h1 hys hlt hl (q2 rfl)
/-- without effect -/
theorem wp_lc {β : Type} {ys : List β} {g : β → MV} {p : β → Bool} {f : β → MV} {L : β → Loc} (hs : ∀ y ∈ ys, t.set (g y) l = some (L y)) (hc : ∀ y ∈ ys, okR (c (L y) h) (fun b h' => b = p y ∧ h' = h) noE)
    (he : ∀ y ∈ ys, p y = true → okR (e (L y) h) (fun v h' => v = f y ∧ h' = h) noE) (hlen : ys.length ≤ 16777216) (q : QL ((ys.filter p).map f) h) : okR (lcGo t c e (ys.map g) [] l h) QL E := by
  refine wp_lcI (fun k acc h' => h' = h ∧ acc = ((ys.take k).filter p).map f) ⟨rfl, rfl⟩ ?_ ?_
  · rintro k x acc h' e0 ⟨rfl, rfl⟩
    rw [List.getElem?_map] at e0
    obtain ⟨y, e1, rfl⟩ := Option.map_eq_some_iff.mp e0
    have hm : y ∈ ys := List.mem_of_getElem? e1
    have hk : k < ys.length := (List.getElem?_eq_some_iff.mp e1).1
    have htk : ys.take (k + 1) = ys.take k ++ [y] := by rw [List.take_succ, e1]; rfl
    refine ⟨L y, hs y hm, okR_mono (hc y hm) ?_ fun _ _ _ z => z⟩
    rintro b h1 ⟨rfl, rfl⟩
    refine ⟨fun hb => okR_mono (he y hm hb) ?_ fun _ _ _ z => z, fun hb => ⟨rfl, ?_⟩⟩
    · rintro v h2 ⟨rfl, rfl⟩
      refine ⟨?_, rfl, ?_⟩
      · rw [List.length_map]
        have := List.length_filter_le p (ys.take k)
        rw [List.length_take] at this
        omega
      · rw [htk, List.filter_append, List.map_append]; simp [hb]
    · rw [htk, List.filter_append, List.map_append]; simp [hb]
  · rintro acc h' ⟨rfl, rfl⟩
    rw [List.length_map, List.take_length]
    exact q
theorem wp_lc0 {β : Type} {ys : List β} {g : β → MV} {f : β → MV} {L : β → Loc} (hs : ∀ y ∈ ys, t.set (g y) l = some (L y))
    (he : ∀ y ∈ ys, okR (e (L y) h) (fun v h' => v = f y ∧ h' = h) noE) (hlen : ys.length ≤ 16777216) (q : QL (ys.map f) h) : okR (lcGo t mYes e (ys.map g) [] l h) QL E :=
  wp_lc (p := fun _ => true) hs (fun y hy => ⟨rfl, rfl⟩) (fun y hy _ => he y hy) hlen (by rw [List.filter_eq_self.mpr (fun _ _ => rfl)]; exact q)
end
end ML
namespace ML
open PySem PySem.Spec PyProof.Rows L2
theorem repl_map {α : Type} (f : α → MV) (k : Nat) (xs : List α) : (List.replicate k (xs.map f)).flatten = ((List.replicate k xs).flatten).map f := by
  rw [List.map_flatten, List.map_replicate]
theorem cutM_len {α : Type} (xs : List α) (lo hi : Option Int) : (cutM xs lo hi).length ≤ xs.length := by
  unfold cutM; rw [List.length_take, List.length_drop]; omega
theorem repl_len {α : Type} (k : Nat) (xs : List α) : (List.replicate k xs).flatten.length = k * xs.length := by simp
end ML
namespace ML
open PySem PySem.Spec PyProof.Rows L2
theorem wp_mulTI {xs : List Int} {k : Int} {h : MH} {Q : MV → MH → Prop} {E : PE'} (h0 : 0 ≤ k) (h1 : k ≤ 4000) (hb : xs.length ≤ 4000) (q : Q (.tup (((List.replicate k.toNat xs).flatten).map .int)) h) : okR (mulO (.tup (xs.map .int)) (.int k) h) Q E := by
  refine wp_mulT ⟨by omega, by omega, ?_⟩ (by rw [repl_map]; exact q)
  rw [List.length_map]
  exact Nat.le_trans (Nat.mul_le_mul hb (show k.toNat ≤ 4000 by omega)) (by decide)
theorem repl_le {α : Type} {k a b c : Nat} {xs : List α} (h1 : k ≤ a) (h2 : xs.length ≤ b) (h3 : a * b ≤ c) : (List.replicate k xs).flatten.length ≤ c := by
  rw [repl_len]; exact Nat.le_trans (Nat.mul_le_mul h1 h2) h3
end ML
namespace ML
open PySem PySem.Spec PyProof.Rows L2
section
variable {l : Loc} {h : MH} {E : PE'} {QL : List MV → MH → Prop} {t : Tg} {c : MBx} {e : MEx}
theorem wp_lcL0 {xs : List MV} {f : MV → MV} {L : MV → Loc} (hs : ∀ y ∈ xs, t.set y l = some (L y))
    (he : ∀ y ∈ xs, okR (e (L y) h) (fun v h' => v = f y ∧ h' = h) noE) (hlen : xs.length ≤ 16777216) (q : QL (xs.map f) h) : okR (lcGo t mYes e xs [] l h) QL E := by
  have := wp_lc0 (ys := xs) (g := id) (f := f) (L := L) (t := t) (e := e) (E := E) (QL := QL) hs he hlen q
  rwa [List.map_id] at this
theorem wp_lcL {xs : List MV} {p : MV → Bool} {f : MV → MV} {L : MV → Loc} (hs : ∀ y ∈ xs, t.set y l = some (L y)) (hc : ∀ y ∈ xs, okR (c (L y) h) (fun b h' => b = p y ∧ h' = h) noE)
    (he : ∀ y ∈ xs, p y = true → okR (e (L y) h) (fun v h' => v = f y ∧ h' = h) noE) (hlen : xs.length ≤ 16777216) (q : QL ((xs.filter p).map f) h) : okR (lcGo t c e xs [] l h) QL E := by
  have := wp_lc (ys := xs) (g := id) (p := p) (f := f) (L := L) (t := t) (c := c) (e := e) (E := E) (QL := QL) hs hc he hlen q
  rwa [List.map_id] at this
end
theorem dat_intT {n : Nat} {xs : List Int} : datN (n + 1) (.tup (xs.map .int)) = true := by unfold datN; exact ints_dat _ _
theorem dat_intF {n : Nat} {xs : List Int} : datN (n + 1) (.fl (xs.map .int)) = true := by unfold datN; exact ints_dat _ _
theorem eqB_self {h : MH} {x : MV} (hd : datN 64 x = true) : eqB h x x = some true := by
  obtain ⟨b, e, hb⟩ := eqB_dat (h := h) hd hd
  rw [e, hb.mpr rfl]
end ML
namespace ML
open PySem PySem.Spec PyProof.Rows L2
theorem loc_get2 {α : Type} (g t s : List α) (u c d : α) : (g ++ u :: (t ++ c :: d :: s))[g.length + (t.length + 1 + 1)]? = some d := by
  rw [List.getElem?_append_right (by omega)]
  rw [show g.length + (t.length + 1 + 1) - g.length = (t.length + 1) + 1 by omega, List.getElem?_cons_succ, List.getElem?_append_right (by omega)]
  simp
theorem loc_set2 {α : Type} (g t s : List α) (u c d v : α) : (g ++ u :: (t ++ c :: d :: s)).set (g.length + (t.length + 1 + 1)) v = g ++ u :: (t ++ c :: v :: s) := by
  rw [List.set_append_right _ _ (by omega)]
  rw [show g.length + (t.length + 1 + 1) - g.length = (t.length + 1) + 1 by omega, List.set_cons_succ, List.set_append_right _ _ (by omega)]
  simp
theorem seqIndex_pos {i : Int} {n : Nat} (h0 : 0 ≤ i) (h1 : i < n) : seqIndex? i n = some i.toNat := by
  have := (ixN_seq (n := n) (i := i) (j := i.toNat) (by unfold ixN; rw [if_pos h0, if_pos h1])).1
  exact this
theorem map_erase {α β : Type} (f : α → β) : ∀ (xs : List α) (i : Nat), (xs.map f).eraseIdx i = (xs.eraseIdx i).map f
  | [], _ => rfl
  | x :: xs, 0 => rfl
  | x :: xs, i + 1 => by rw [List.map_cons, List.eraseIdx_cons_succ, List.eraseIdx_cons_succ, List.map_cons, map_erase f xs i]
theorem wp_popAtM {α : Type} {f : α → MV} {hs : List α} {i : Int} {n : Nat} {h : MH} {Q : MV → MH → Prop} {E : PE'} (e : h[n]? = some (.lst (hs.map f))) (h0 : 0 ≤ i) (h1 : i < hs.length) (h2 : hs.length < 2 ^ 60)
    (q : ∀ x, x ∈ hs → hs[i.toNat]? = some x → Q (f x) (h.set n (.lst ((hs.eraseIdx i.toNat).map f)))) : okR (popAtO (.ref n) (.int i) h) Q E := by
  have hlt : i.toNat < hs.length := by omega
  have hx := q hs[i.toNat] (List.getElem_mem hlt) (List.getElem?_eq_getElem hlt)
  refine okR_eq (a := f hs[i.toNat]) (h := h.set n (.lst ((hs.eraseIdx i.toNat).map f))) ?_ hx
  unfold popAtO
  dsimp only
  rw [e]
  dsimp only
  rw [if_pos ⟨by omega, by omega⟩, List.length_map, seqIndex_pos h0 h1]
  dsimp only
  rw [List.getElem?_map, List.getElem?_eq_getElem hlt]
  dsimp only [Option.map]
  rw [map_erase]
theorem mod_add {a b p : Int} (ha : 0 ≤ a) (ha2 : a < p) (hb : 0 ≤ b) (hb2 : b < p) : (a + b) % p = if a + b < p then a + b else a + b - p := by
  split
  · exact Int.emod_eq_of_lt (by omega) ‹_›
  · rw [← Int.sub_emod_right, Int.emod_eq_of_lt (by omega) (by omega)]
end ML
namespace ML
open PySem PySem.Spec PyProof.Rows L2
theorem wp_enumT {a : List MV} {h : MH} {QL : List MV → MH → Prop} {E : PE'} (q : QL (enumMV a) h) : okR (enumL [.tup a] h) QL E := ⟨q⟩
theorem enumMV_get {xs : List MV} {k : Nat} {x : MV} (e : (enumMV xs)[k]? = some x) : ∃ y, xs[k]? = some y ∧ x = .tup [.int (k : Nat), y] := by
  unfold enumMV at e
  rw [List.getElem?_mapIdx] at e
  obtain ⟨u, hu, rfl⟩ := Option.map_eq_some_iff.mp e
  exact ⟨u, hu, rfl⟩
@[simp] theorem enumMV_length (xs : List MV) : (enumMV xs).length = xs.length := by unfold enumMV; simp
end ML

set_option maxRecDepth 100000
/-! ML11: a def that calls itself; new dicts. -/
namespace ML
open PySem PySem.Spec PyProof.Rows L2
section
variable {P : Program} {w : World} {K : PySem.W.Frag} {mg : Str → Option Value} {base : Heap}
/-- no fuel: no promise -/
theorem fnH0 {x nm qual : Str} {st : Stmt} {f : Addr} {fd : FuncData} {ps : List Str} {n k : Nat} (F : FnP K nm qual st f fd) (hm : mg x = some (.ref f))
    (hb : ∀ (kV doc pm : Value) (an : Option Addr) (cdv ct : Value) (us : List Value), us.length = ps.length → bindArgs (PySem.W.fnOf nm qual (defArgs st) (defBody st) (defScope st) .none kV doc pm an cdv ct) ⟨us, []⟩ = pure (ps.zip us)) :
    FnH P w K mg base x n k (fun _ _ => .stuck) f fd ps := by
  have hbi := F.bindsN hb
  refine ⟨hm, F.kp, hbi, ⟨fun vs H Q E ⟨_, _, _, _, _, _, _, q⟩ => q.elim, fun A outer s H args us vs Q E _ _ _ _ ⟨_, _, _, _, _, _, _, q⟩ => q.elim⟩⟩
end
section
variable {X : Cx} {W : WX} {pos : Pos}
/-- a new empty dict -/
def mNewD (o : MO) : MEx := fun _ h => .ok (.ref h.length) (h ++ [o])
theorem me_dnewK : ME X W (.Dict [] [] pos) (mNewD (.dK [])) :=
  peW pe_dnewK fun σ H Q ⟨γ, ι, l, h, s, lr, p⟩ q hq => by
    obtain ⟨s1, e1, hl⟩ := s.alloc (o := .dK []) (w := .dK []) hq (.dK .nil)
    exact p.okE e1 ⟨s1, .ref hl⟩
theorem me_dnewT : ME X W (.Dict [] [] pos) (mNewD (.dT [])) :=
  peW pe_dnewT fun σ H Q ⟨γ, ι, l, h, s, lr, p⟩ q hq => by
    obtain ⟨s1, e1, hl⟩ := s.alloc (o := .dT []) (w := .dT []) hq (.dT .nil)
    exact p.okE e1 ⟨s1, .ref hl⟩
end
end ML

set_option maxRecDepth 100000
set_option maxHeartbeats 4000000
/-! ML12: exceptions: raise, try, a caught one as a value. -/
namespace ML
open PySem PySem.Spec PyProof.Rows L2

/-! ### raise -/
/-- an own exception class without own __init__ -/
structure XcF (K : PySem.W.Frag) (mg : Str → Option Value) (c : Str) : Prop where
  ex : ∃ C, mg c = some (.ref C) ∧ PySem.W.excIn K C He.veBase "ValueError.__new__" = true ∧ PySem.W.keepIn K (.ref C) = true ∧ PySem.W.subIn K (.ref C) (.type "BaseException") = some true ∧ PySem.W.typeIn K (.ref C) = some (.type "type")
def mRaise (c : Str) : MSt := fun l h => .exn c [] l h
def mRaise1 (c f : Str) (e : MEx) : MSt := fun l h => (e l h).toS l fun v h1 => .exn c [(f, v)] l h1
section
variable {X : Cx} {W : WX} {pos : Pos}
theorem ms_raise {x m : Str} {j : Nat} {p p2 p3 : Pos} (tk : Takes X W) (F : XcF X.K X.mg x) (hc : X.calm = true := by rfl) (hg : Gl X x := by rfl) (hdb : (x == ("__debug__" : Str)) = false := by decide) :
    MSj X W (.Raise (some (.Call (.Name x p) [.Constant (.str m) j p2] [] p3)) none pos) (mRaise x) := by
  obtain ⟨C, gC, q, kC, s1, s2⟩ := F.ex
  exact psW (ps_raise hc tk (pmk_own PySem.F.excBase_ValueError q gC kC (raises_own s1 s2) hg hdb)) fun D σ H ⟨γ, ι, l, h, s, lr, p⟩ => p ι σ (.ref C) none H (.refl _ _) s lr (.bare gC)

/-! an own exception class whose __init__ says the base's __init__ and keeps its one argument in a field -/
structure XiF (P : Program) (w : World) (K : PySem.W.Frag) (mg : Str → Option Value) (base : Heap) (c f : Str) (k : Nat) : Prop where
  ex : ∃ (C fI : Addr) (fd : FuncData) (ps : List Str), mg c = some (.ref C) ∧ OexC K C ∧ PySem.W.findIn K (.ref C) "__init__" = some (some (.ref fI)) ∧ PySem.W.typeIn K (.ref fI) = some (.type "function") ∧ Binds K fd ps [] ∧
    FnOk P w K mg base (L2.CX P w) k fI fd ps fun vs H Q _ => ∃ a v, vs = [.ref a, v] ∧ H a = some (exo a C none) ∧ ∀ d, H d = none → d ≠ a → Q .non (upd (upd H d (exd d [(f, v)])) a (exo a C (some d)))
theorem pass_no {X : Cx} : Passes (L2.CX X.prog X.w) X (fun _ _ _ => False) := fun _ _ _ _ _ _ _ hc => by
  obtain ⟨_, _, _, _, _, _, _, _, _, _, _, _, z⟩ := hc
  exact z.elim
theorem del_none {H : Hp} {a : Addr} (h : H a = none) : del H a = H := by
  funext b
  by_cases e : b = a
  · rw [e, del_same, h]
  · rw [del_ne e]
theorem ms_raise1 {x f : Str} {e : Expr} {m : MEx} {k : Nat} {p p3 : Pos} (tk : Takes X W) (F : XiF X.prog X.w X.K X.mg X.base x f k) (hr : Room (k + 1) X.A) (he : ME X W e m) (hc : X.calm = true := by rfl) (hg : Gl X x := by rfl) (hdb : (x == ("__debug__" : Str)) = false := by decide)
    (hs : starEach [e] X.env = (false, eval e X.env) :: starEach [] X.env := by rfl) (hpl : (backTo p3 (starEach [] X.env)).any (·.1) = false := by rfl) :
    MSj X W (.Raise (some (.Call (.Name x p) [e] [] p3)) none pos) (mRaise1 x f m) := by
  obtain ⟨C, fI, fd, ps, gC, T, iC, tI, hb, ok⟩ := F.ex
  refine psW (ps_raise hc tk (pmk_oex T iC tI ok hr hb .nil pass_no hg gC (pa_cons he pa_nil hs) hdb hs hpl)) fun D σ H ⟨γ, ι, l, h, s, lr, p⟩ => ?_
  refine ⟨γ, ι, l, h, s, lr, PostS.run (rel := rV X) s lr p fun ι1 v h1 b H1 e1 lr1 ⟨s1, r1⟩ p1 => ?_⟩
  refine ⟨by show 1 ≤ 1000; omega, fun a ha => ⟨a, b, rfl, upd_same, fun d hd hda => ⟨rfl, d, [(f, b)], upd_same, ?_, ?_, ?_⟩⟩⟩
  · rw [upd_ne hda, upd_same]
  · rw [upd_ne hda] at hd; exact hd
  · rw [upd_ne hda] at hd
    have e : upd (del (upd (upd (upd H1 a (exo a C none)) d (exd d [(f, b)])) a (exo a C (some d))) a) d (.xd [(f, b)]) = upd H1 d (.xd [(f, b)]) := by
      funext z
      by_cases h1 : z = d
      · rw [h1, upd_same, upd_same]
      · rw [upd_ne h1, upd_ne h1]
        by_cases h2 : z = a
        · rw [h2, del_same, ha]
        · rw [del_ne h2, upd_ne h2, upd_ne h1, upd_ne h2]
    rw [e]
    obtain ⟨s2, e2⟩ := s1.lay (w := .xd [(f, b)]) hd
    have hdi : d ∉ ι1 := fun hm => by
      obtain ⟨n, hn, en⟩ := List.getElem_of_mem hm
      obtain ⟨w, hw, _⟩ := s1.2.2.1 n (h1[n]'(by rw [← s1.1]; exact hn)) d (List.getElem?_eq_getElem _) (by rw [List.getElem?_eq_getElem hn, en])
      rw [hd] at hw; cases hw
    exact p1 ι1 σ (.ref C) (some d) _ e2 s2 (lr1.mono (e2.grow s1)) (.flds gC upd_same hdi (.cons (r1.mono (e2.grow s1)) .nil))
end

/-! ### try -/
/-- an except clause: the classes that it takes, those that it lets by, its name's slot, its suite -/
structure Cl where
  yes : List Str
  no : List Str
  slot : Option Nat
  su : MSt
def MS.noX : MS → MS
  | .exn _ _ _ _ => .stuck
  | r => r
def MS.gone (i : Nat) : MS → MS
  | .nx l h => .nx (l.set i none) h
  | .bk l h => .bk (l.set i none) h
  | .ct l h => .ct (l.set i none) h
  | r => r
def hdl : List Cl → Str → List (Str × MV) → MSt
  | [], c, fs, l, h => .exn c fs l h
  | k :: r, c, fs, l, h => if c ∈ k.yes then (match k.slot with
      | none => (k.su l h).noX
      | some i => ((k.su (l.set i (some (.ref h.length))) (h ++ [.exc c fs])).noX).gone i)
    else if c ∈ k.no then hdl r c fs l h else .stuck
def mTry (b : MSt) (ks : List Cl) (o : MSt) : MSt := fun l h => match b l h with
  | .nx l h => o l h
  | .exn c fs l h => hdl ks c fs l h
  | r => r
/-- what the class that a clause names says of the classes -/
def Tells (X : Cx) (x : Str) (D : Value) (yes no : List Str) : Prop := Names X x D ∧ (∀ c ∈ yes, ∃ C, X.mg c = some (.ref C) ∧ PySem.W.exmOne X.K (.ref C) D = some true) ∧ ∀ c ∈ no, ∃ C, X.mg c = some (.ref C) ∧ PySem.W.exmOne X.K (.ref C) D = some false
inductive HdsM (X : Cx) : List ExceptHandler → List Cl → Prop
  | nil : HdsM X [] []
  | plain {x np b0 su ph hds yes no m ks} (D : Value) (t : Tells X x D yes no) (hs : ∀ a pn, MSs (X.suite a pn) W0 (b0 :: su) m) (r : HdsM X hds ks) : HdsM X (.ExceptHandler (some (.Name x np)) none (b0 :: su) ph :: hds) (⟨yes, no, none, m⟩ :: ks)
  | named {x n np b0 su ph hds yes no i m ks} (D : Value) (t : Tells X x D yes no) (hi : X.N[i]? = some n) (hl : X.env.kindOf n = some .local) (hs : ∀ a pn, MSs (X.suite a pn) W0 (b0 :: su) m) (r : HdsM X hds ks) :
      HdsM X (.ExceptHandler (some (.Name x np)) (some n) (b0 :: su) ph :: hds) (⟨yes, no, some i, m⟩ :: ks)
section
variable {X : Cx} {W : WX} {pos : Pos} {pins : List (Addr × Obj)} {σ : L2.St} {H : Hp} {sI s' : Shared} {B : Heap}
theorem Inv.inSuite (I : L2.Inv X pins σ H s') (a : Addr) : L2.Inv (X.suite a (X.pn ++ pins)) [] σ H s' :=
  ⟨I.ok.suite _ _, I.os, I.bare, I.base, I.loc, I.cell, I.free, I.freeC, fun p hp => I.pin p (by rwa [List.append_nil] at hp), I.hok, I.len⟩
theorem Inv.outSuite {a : Addr} {qs : List (Addr × Obj)} (I : L2.Inv (X.suite a (X.pn ++ pins)) qs σ H s') (ok : X.Ok) : L2.Inv X pins σ H s' :=
  ⟨ok, I.os, I.bare, I.base, I.loc, I.cell, I.free, I.freeC, fun p hp => I.pin p (List.mem_append_left _ hp), I.hok, I.len⟩
/-- on the ground again, the exception tracked -/
theorem Inv.landV {a : Addr} {cls : Value} {d : Option Addr} (I : L2.Inv X pins σ H sI) (nb : ∀ b o, sI.heap.get? b = some o → b ∉ frs X.stack → B.get? b = some o) (st : B.StaysIn s'.heap) (up : sI.heap.UpToSlots s'.heap) (os : s'.os = sI.os) (ag : AllBare s'.gens)
    (ba : B.get? a = none) (na : H a = none) (nf : a ∉ frs X.stack) (ex : ExP cls d a s'.heap) : L2.Inv X pins σ (upd H a (.ext (ExP cls d a))) s' := by
  have fr : ∀ b ∈ frs X.stack, ∀ o, sI.heap.get? b = some o → ∃ sl, s'.heap.get? b = some { o with slots := sl } := fun b hb o e => by
    obtain ⟨_, u, eu, hd⟩ := I.stack.mem hb
    have : u = o := Option.some.inj (eu.symm.trans e)
    subst this
    exact up b u e hd
  have ne : ∀ b o, sI.heap.get? b = some o → b ≠ a := fun b o e z => by
    subst z
    have := nb b o e nf
    rw [ba] at this; cases this
  have hok : HOk X.prog X.w H s'.heap := (I.inGround nb).kept st
  refine L2.Inv.call' (ch := []) I os ⟨fun b o e _ hb _ => st b o (nb b o e hb), fun b o e _ hb _ => fr b hb o e, fun b o e n _ => by rw [upd_ne (ne b o e)]; exact n, fun b o e _ => ?_, fun b xs e => by rw [upd_ne (ne_of_none e na)]; exact e,
    fun b o u e => by rw [upd_ne (ne_of_none e na)]; exact e, fun b ps e => ⟨#[], by rw [upd_ne (ne_of_none e na), e]; simp⟩⟩ (fun b o e => ?_) ag fun _ z => nomatch z
  · by_cases hb : b ∈ frs X.stack
    · exact (fr b hb o e).elim fun sl q => ⟨_, q⟩
    · exact ⟨o, st b o (nb b o e hb)⟩
  · by_cases hb : b = a
    · subst hb
      rw [upd_same] at e; cases e
      obtain ⟨oe, vs, q, z, dt⟩ := ex
      exact ⟨⟨oe, vs, q, z, dt⟩, ⟨oe, q⟩, fun h1 h2 ⟨o1, v1, q1, z1, d1⟩ k => ⟨o1, v1, k o1 q1, z1, d1⟩⟩
    · rw [upd_ne hb] at e
      exact (hok b o e).stay (fun _ _ _ q => q) (fun c q => by rw [upd_ne (ne_of_none q na)]; exact q) fun c xs q => by rw [upd_ne (ne_of_none q na)]; exact q
/-- what a try's clauses make of an exception -/
def wTry (X : Cx) (W : WX) (D : Ends) (ks : List Cl) : WX := fun cls d σ H => ∃ γ ι l h c fs, SimH X.K X.mg γ ι H h ∧ LR X.K X.mg γ ι H l σ ∧ XR X.K X.mg γ ι H c fs cls d ∧ PostS X W γ (hdl ks c fs l h) ι H D
theorem PostS.noX {γ : List Addr} {r : MS} {ι : List Addr} {D : Ends} (p : PostS X W γ r.noX ι H D) : PostS X W0 γ r ι H D := by
  cases r with
  | exn c fs l h => exact p.elim
  | _ => exact p
theorem XR.cls {K : PySem.W.Frag} {mg : Str → Option Value} {γ ι : List Addr} {c : Str} {fs : List (Str × MV)} {cls : Value} {d : Option Addr} (r : XR K mg γ ι H c fs cls d) : ∃ C, cls = .ref C ∧ mg c = some (.ref C) := by
  cases r with
  | bare g => exact ⟨_, rfl, g⟩
  | flds g _ _ _ => exact ⟨_, rfl, g⟩
theorem XR.cell {K : PySem.W.Frag} {mg : Str → Option Value} {γ ι : List Addr} {h : MH} {c : Str} {fs : List (Str × MV)} {cls : Value} {d : Option Addr} (s : SimH K mg γ ι H h) (r : XR K mg γ ι H c fs cls d) (a : Addr) : CR K mg γ ι H a (.exc c fs) (.ext (ExP cls d a)) := by
  cases r with
  | bare g => exact .exc0 g
  | flds g h1 h2 h3 =>
    refine .exc1 g h1 h2 (fun z => ?_) h3
    obtain ⟨_, vs, e⟩ := s.2.2.2 _ z
    rw [h1] at e; cases e
theorem ms_try {body orelse : List Stmt} {hds : List ExceptHandler} {h0 : ExceptHandler} {ks : List Cl} {mb mo : MSt} (tk : Takes X W) (hN : X.N.Nodup)
    (hb : ∀ (W' : WX) (pn : List (Addr × Obj)) (xe : Value → Shared → Prop), Takes (X.tr pn xe) W' → PassesOwn (model X.prog X.w) X.A X.env xe → MSs (X.tr pn xe) W' body mb)
    (hh : HdsM X (h0 :: hds) ks) (ho : MSs X W orelse mo) (hs : X.stack = X.env :: X.outer := by rfl) (hf : X.env.frame = some X.env.locals := by rfl) : MSj X W (.Try body (h0 :: hds) orelse [] pos) (mTry mb ks mo) := by
  refine ⟨fun pins s σ H D I ⟨γ, ι, l, h, sm, lr, p⟩ => ?_⟩
  have ok := I.ok
  have hfr : X.A.frames = some (X.env :: X.outer) := by rw [ok.frames, hs]
  have p0 : PostS X (wTry X W D ks) γ (mb l h) ι H { D with nx := fun σ H => TMS X W mo D σ H } := by
    unfold mTry at p
    revert p
    cases mb l h with
    | nx l1 h1 => exact fun p ι1 σ1 H1 e s1 lr1 => ⟨γ, ι1, l1, h1, s1, lr1, PostS.mono p e⟩
    | exn c fs l1 h1 => exact fun p ι1 σ1 cls d H1 e s1 lr1 x1 => ⟨γ, ι1, l1, h1, c, fs, s1, lr1, x1, PostS.mono p e⟩
    | _ => exact id
  refine wpAny_Try_except (wpAny_mono ((hb (wTry X W D ks) (X.pn ++ pins) (fun e s1 => wpAny (model X.prog X.w) X.A (noteFrame e X.env) (fun _ s2 => wpAny (model X.prog X.w) X.A (setFlight e none)
    (fun _ s3 => wpAny (model X.prog X.w) X.A (handleBy e X.env (h0 :: hds)) (SP X pins D) X.xe s3) X.xe s2) X.xe s1) (fun u s' xx => ?_) PassesOwn.looking).run [] s σ H { D with nx := fun σ H => TMS X W mo D σ H } (I.toTry _) ⟨γ, ι, l, h, sm, lr, p0⟩) (fun f s1 hsp => ?_) fun e s1 z => z)
  · obtain ⟨a, B, sI, pins', σ', H', cls, d, rfl, J', nb, up, sky, na, os, ag, w⟩ := xx
    have J : L2.Inv X pins σ' H' sI := J'.ofTry ok
    rw [show (X.tr _ _).stack = X.env :: X.outer from hs] at sky
    show wpAny (model X.prog X.w) X.A (noteFrame (.ref a) X.env) _ _ _
    refine Sky.land Zc.steady hfr hf sky fun h3 fl3 up3 => ?_
    have J3 : L2.Inv X pins σ' H' { s' with heap := h3 } := J.landed nb fl3.1 (up.trans up3) os ag
    obtain ⟨oe3, vs3, he3, hz3, hd3⟩ := fl3.there
    have nfr : a ∉ frs X.stack := fun hm => by
      rw [hs] at hm
      obtain ⟨_, o', e', hnf⟩ := fl3.2.2.1.mem hm
      exact hnf _ ((Option.some.inj (he3.symm.trans e')) ▸ hd3)
    have LT : PySem.W.Looks (model X.prog X.w) h3 (typeOf (.ref a)) cls := fun A Q E s k q => wpAny_typeOf_ref (k _ _ he3) (by rw [hz3.1]; exact q)
    have S3 := Inv.inSuite J3 a
    have go : ∀ {hs' : List ExceptHandler} {ks' : List Cl}, HdsM X hs' ks' → (∃ γ ι l h c fs, SimH X.K X.mg γ ι H' h ∧ LR X.K X.mg γ ι H' l σ' ∧ XR X.K X.mg γ ι H' c fs cls d ∧ PostS X W γ (hdl ks' c fs l h) ι H' D) →
        wpAny (model X.prog X.w) X.A (handleBy (.ref a) X.env hs') (SP X pins D) X.xe { s' with heap := h3 } := by
      intro hs' ks' hk
      have test : ∀ {x : Str} {np : Pos} {D' : Value} {yes no : List Str}, Tells X x D' yes no → ∀ {Q : Value → Shared → Prop} {E : Value → Shared → Prop}, Q D' { s' with heap := h3 } →
          wpAny (model X.prog X.w) (X.A.mark (some (.ref a))) (eval (.Name x np) X.env) Q E { s' with heap := h3 } := fun {x np D' yes no} t {Q E} q => by
        obtain ⟨⟨hg, hdbg, hm | ⟨hm, hv, hnn⟩⟩, _⟩ := t
        · exact ld_glob (X := X.suite a (X.pn ++ pins)) S3 hg hm q hdbg
        · exact ld_blt (X := X.suite a (X.pn ++ pins)) S3 hg hm hv q hnn hdbg
      induction hk with
      | nil =>
        rintro ⟨γ, ι, l, h, c, fs, sm, lr, x, w⟩
        refine wpAny_handleBy_nil ?_
        obtain ⟨k1, k2, k3, oe, vs, T, oT, ts, he, hz, hd, h1, hr⟩ := id fl3
        unfold PySem.passOn
        refine wpAny_bind (wpAny_field he hd h1 ?_)
        rw [if_neg (show ¬ ((Value.ref T == Value.none) = true) by simp)]
        have fin : wpAny (model X.prog X.w) X.A (setFlight (.ref a) X.env.frame) (fun _ s4 => wpAny (model X.prog X.w) X.A (throw (.ref a) : Sem Flow) (SP X pins D) X.xe s4) X.xe { s' with heap := h3 } := by
          rw [hf]
          exact HandSPX.setFlight_upZ fl3 fun h4 hh4 up4 => wpAny_throw (tk _ _ ⟨a, B, sI, pins, σ', H', cls, d, rfl, J, nb, (up.trans up3).trans up4, .inr (.inr (by rw [hs]; exact hh4)), na, os, ag, w ι σ' cls d H' (.refl _ _) sm lr x⟩)
        first | exact wpAny_bind (wpAny_pure (wpAny_bind fin)) | exact wpAny_bind fin
      | @plain x np b0 su ph hds' yes no m ks' D' t hsu r ih =>
        rintro ⟨γ, ι, l, h, c, fs, sm, lr, x, wp⟩
        obtain ⟨C, rfl, gc⟩ := x.cls
        refine wpAny_handleBy_cons (codeAny_handlers_test (test t ?_)) (fun q => by cases q)
        unfold hdl at wp
        by_cases hy : c ∈ yes
        · rw [if_pos hy] at wp
          obtain ⟨C', g', em⟩ := t.2.1 c hy
          rw [gc] at g'; cases g'
          refine (PySem.W.exm_one (M := model X.prog X.w) J3.kIn LT em).here ?_
          refine codeAny_handlers_suite (HandSPX.lands_againZ fl3 fun h4 fl4 up4 => ?_)
          have J4 : L2.Inv X pins σ' H' { s' with heap := h4 } := J.landed nb fl4.1 ((up.trans up3).trans up4) os ag
          refine wpAny_mono ((hsu a (X.pn ++ pins)).run [] _ _ H' D (Inv.inSuite J4 a) ⟨γ, ι, l, h, sm, lr, PostS.noX (W := W) wp⟩) (fun f s6 hsp => ?_) (fun _ _ z => False.elim z)
          cases f with
          | ret u => exact hsp.elim fun v ⟨σ6, H6, S6, q6⟩ => ⟨v, σ6, H6, Inv.outSuite S6 ok, q6⟩
          | _ => exact hsp.elim fun σ6 ⟨H6, S6, q6⟩ => ⟨σ6, H6, Inv.outSuite S6 ok, q6⟩
        · rw [if_neg hy] at wp
          by_cases hn : c ∈ no
          · rw [if_pos hn] at wp
            obtain ⟨C', g', em⟩ := t.2.2 c hn
            rw [gc] at g'; cases g'
            refine (PySem.W.exm_one (M := model X.prog X.w) J3.kIn LT em).here ?_
            exact ih ⟨γ, ι, l, h, c, fs, sm, lr, x, wp⟩
          · rw [if_neg hn] at wp; exact wp.elim
      | @named x n np b0 su ph hds' yes no i m ks' D' t hi hl hsu r ih =>
        rintro ⟨γ, ι, l, h, c, fs, sm, lr, x, wp⟩
        obtain ⟨C, rfl, gc⟩ := x.cls
        refine wpAny_handleBy_cons (codeAny_handlers_test (test t ?_)) (fun q => by cases q)
        unfold hdl at wp
        by_cases hy : c ∈ yes
        · rw [if_pos hy] at wp
          obtain ⟨C', g', em⟩ := t.2.1 c hy
          rw [gc] at g'; cases g'
          refine (PySem.W.exm_one (M := model X.prog X.w) J3.kIn LT em).here ?_
          refine codeAny_handlers_suite_as (HandSPX.lands_againZ fl3 fun h4 fl4 up4 => ?_)
          obtain ⟨oe4, vs4, he4, hz4, hd4⟩ := fl4.there
          have J4 := Inv.landV (s' := { s' with heap := h4 }) J nb fl4.1 ((up.trans up3).trans up4) os ag fl4.2.1 na nfr ⟨oe4, vs4, he4, hz4, hd4⟩
          obtain ⟨s5, e5, l5⟩ := sm.alloc (p := a) na (x.cell sm a)
          have lr5 := (lr.mono (e5.grow sm)).set (.ref l5) i
          refine store_ok (X := X.suite a (X.pn ++ pins)) (v := .ref a) (Inv.inSuite J4 a) hN hi (.inl hl) rfl (fun s6 S6 => ?_) (.inr hl)
          have w5 : PostS X W γ ((m (l.set i (some (.ref h.length))) (h ++ [.exc c fs])).noX.gone i) (ι ++ [a]) (upd H' a (.ext (ExP (.ref C) d a))) D := PostS.mono wp e5
          have w6 : PostS X W0 γ (m (l.set i (some (.ref h.length))) (h ++ [.exc c fs])) (ι ++ [a]) (upd H' a (.ext (ExP (.ref C) d a))) { nx := fun σ H => D.nx (σ.set i none) H, rt := D.rt, bk := fun σ H => D.bk (σ.set i none) H, ct := fun σ H => D.ct (σ.set i none) H } := by
            revert w5
            cases m (l.set i (some (.ref h.length))) (h ++ [.exc c fs]) with
            | nx l7 h7 => exact fun w ι7 σ7 H7 e7 s7 lr7 => w ι7 _ H7 e7 s7 (lr7.unset i)
            | bk l7 h7 => exact fun w ι7 σ7 H7 e7 s7 lr7 => w ι7 _ H7 e7 s7 (lr7.unset i)
            | ct l7 h7 => exact fun w ι7 σ7 H7 e7 s7 lr7 => w ι7 _ H7 e7 s7 (lr7.unset i)
            | rt v h7 => exact id
            | exn c fs l7 h7 => exact fun w => w.elim
            | stuck => exact id
          refine wpAny_mono ((hsu a (X.pn ++ pins)).run [] s6 _ _ _ S6 ⟨γ, ι ++ [a], _, _, s5, lr5, w6⟩) (fun f s7 hsp => ?_) (fun _ _ z => False.elim z)
          have fin : ∀ {σ7 : L2.St} {H7 : Hp} {Q : Shared → Prop}, L2.Inv (X.suite a (X.pn ++ pins)) [] σ7 H7 s7 → (∀ s8, L2.Inv X pins (σ7.set i none) H7 s8 → Q s8) →
              wpAny (model X.prog X.w) X.A (do bindName X.env n .none; unbindBehindTheSuite X.env n ph) (fun _ s8 => Q s8) X.xe s7 := fun {σ7 H7 Q} S7 hq => gone_ok (Inv.outSuite S7 ok) hN hi hl hq
          cases f with
          | ret u => exact hsp.elim fun v ⟨σ8, H8, S8, r8, q8⟩ => fin S8 fun s9 J9 => ⟨v, _, _, J9, r8, q8⟩
          | _ => exact hsp.elim fun σ8 ⟨H8, S8, q8⟩ => fin S8 fun s9 J9 => ⟨_, _, J9, q8⟩
        · rw [if_neg hy] at wp
          by_cases hn : c ∈ no
          · rw [if_pos hn] at wp
            obtain ⟨C', g', em⟩ := t.2.2 c hn
            rw [gc] at g'; cases g'
            refine (PySem.W.exm_one (M := model X.prog X.w) J3.kIn LT em).here ?_
            exact ih ⟨γ, ι, l, h, c, fs, sm, lr, x, wp⟩
          · rw [if_neg hn] at wp; exact wp.elim
    exact go hh w
  · cases f with
    | next => exact hsp.elim fun σ2 ⟨H2, J2, q2⟩ => ho.run pins s1 σ2 H2 D (J2.ofTry ok) q2
    | ret u => exact hsp.elim fun v ⟨σ2, H2, J2, q2⟩ => ⟨v, σ2, H2, J2.ofTry ok, q2⟩
    | _ => exact hsp.elim fun σ2 ⟨H2, J2, q2⟩ => ⟨σ2, H2, J2.ofTry ok, q2⟩
end
end ML
namespace ML
open PySem PySem.Spec PyProof.Rows L2
/-! ### the facts of a class, by a look at the text's heap -/
theorem oexcB_ok {K : PySem.W.Frag} {C : Addr} (h : oexcB K C = true) : OexC K C := by
  simp only [oexcB, Bool.and_eq_true] at h
  obtain ⟨h1, h2, h3, h4, h5⟩ := h
  refine ⟨?_, He.eqO_ok h2, of_decide_eq_true h3, of_decide_eq_true h4, h5⟩
  unfold oexB at h1
  split at h1
  · rename_i t dd cd sl lk
    split at h1
    · rename_i C' bm k0 k1 k2 k3 n k5 hm hs
      simp only [Bool.and_eq_true, decide_eq_true_eq, Bool.not_eq_true'] at h1
      obtain ⟨rfl, rfl, rfl, q1, q2, q3⟩ := h1
      obtain ⟨nm, bs, mro, ns, qn, hd, sn, sub, ab, col, del⟩ := cd
      dsimp only at hm q2 q3
      subst hm q2 q3
      obtain ⟨sl⟩ := sl
      have : sl = [k0, k1, k2, k3, some (.builtin "ValueError.__new__"), k5] := hs
      subst this
      exact ⟨nm, qn, ns, bs, bm, sn, sub, ab, col, dd, k0, k1, k2, k3, k5, lk, q1⟩
    · cases h1
  · cases h1
structure XbC (K : PySem.W.Frag) (C : Addr) : Prop where
  ga : PySem.W.specialIn K (.ref C) "__getattribute__" = some (some (.builtin "type.__getattribute__"))
  ty : PySem.W.typeIn K (.ref C) = some (.type "type")
  rd : PySem.W.readsIn K C (.type "type") = true
  fc : PySem.W.findCls K (.ref C) (.type "type") "__init__" = some (.val (.builtin "ValueError.__init__"))
theorem xbB_ok {K : PySem.W.Frag} {C : Addr} (h : xbB K C = true) : XbC K C := by
  simp only [xbB, Bool.and_eq_true] at h
  obtain ⟨h1, h2, h3, h4⟩ := h
  refine ⟨of_decide_eq_true h1, of_decide_eq_true h2, h3, ?_⟩
  split at h4
  · rename_i n e
    rw [e, of_decide_eq_true h4]
  · cases h4
section
variable {X : Cx} {b : Str} {C : Addr} {e : Expr} {es : List Expr} {ta : TA} {p1 p2 pos : Pos}
/-- B.__init__(self, ..), B an own class without one -/
theorem pe_xinit {pl : Sem Bool} (hm : X.mg b = some (.ref C)) (B : XbC X.K C) (ha : PA X (e :: es) ta) (hg : Gl X b := by rfl) (hdb : (b == ("__debug__" : Str)) = false := by decide)
    (hc : eval (.Call (.Attribute (.Name b p1) "__init__" p2) (e :: es) [] pos) X.env = (do
      let ov ← eval (.Name b p1) X.env
      standAt p2.atName
      let (f, first) ← holding [ov] (getMethod ov "__init__" pl)
      callWith pos f first (backTo pos (starEach (e :: es) X.env)) (backToKw pos (keywordEach [] X.env))) := by rfl)
    (he : starEach (e :: es) X.env = (false, eval e X.env) :: starEach es X.env := by rfl) (hpl : (backTo pos (starEach es X.env)).any (·.1) = false := by rfl) :
    PE X (.Call (.Attribute (.Name b p1) "__init__" p2) (e :: es) [] pos) (tVeI X.K ta) := by
  refine ⟨fun pins s σ H Q I h => PySem.W.methodCall_KW (ld_glob I hg hm ?_ hdb) hc⟩
  obtain ⟨m, fr⟩ := I.fr
  refine PySem.W.method_of_cls fr I.ok.mod.kin B.ga (PySem.W.cls_val fr I.ok.mod.kin B.ty B.rd B.fc (by decide +kernel) ?_)
  show wpAny _ _ (callWith pos (Value.builtin "ValueError.__init__") [] _ _) _ _ _
  refine PyProof.Rows.callWith_method1 (thn (ha.run pos pins _ σ H _ (I.tok _) h) fun us s1 ⟨vs, H1, I1, r1, a, D, ws, ev, hl, T, ea, q⟩ => ?_) he hpl
  subst ev
  cases r1 with
  | @cons _ u0 _ ur ra rw' =>
    have : u0 = Value.ref a := ra
    subst this
    exact oinit_ok T I1 ea (by rw [← Paired.length rw', sizeLine_eq]; omega) fun s2 J => ⟨.non, H1, J, rfl, q⟩
end
end ML
namespace ML
open PySem PySem.Spec PyProof.Rows L2
/-- the __init__ of an exception with one field: its reading -/
def tXi (K : PySem.W.Frag) (f : Str) (m : Str) : TS := tSeq (tDrop (tVeI K (tCons (tVar 0) (tCons (tC (.str m)) tNil)))) (tOst K f (tVar 0) (tVar 1))
section
variable {P : Program} {w : World} {K : PySem.W.Frag} {mg : Str → Option Value} {base : Heap}
theorem xi_of {c f m self par nm qual : Str} {st : Stmt} {C fI : Addr} {fd : FuncData} (F : FnP K nm qual st fI fd) (S : FnScope [self, par] [self, par] (defScope st))
    (hb : ∀ (kV doc pm : Value) (an : Option Addr) (cdv ct : Value) (us : List Value), us.length = ([self, par] : List Str).length → bindArgs (PySem.W.fnOf nm qual (defArgs st) (defBody st) (defScope st) .none kV doc pm an cdv ct) ⟨us, []⟩ = pure (([self, par] : List Str).zip us))
    (gC : mg c = some (.ref C)) (T : OexC K C) (iC : PySem.W.findIn K (.ref C) "__init__" = some (some (.ref fI))) (tI : PySem.W.typeIn K (.ref fI) = some (.type "function")) (hno : PySem.W.findIn K (.ref C) f = some none)
    (h : ∀ (cdv : Value) (A : Around) (outer : List Env) (s : Shared) (H : Hp) (E : XK), Room 1 (A.deeper (envOfC qual (defScope st) s.heap.objs.size fI cdv)) →
      PSs (cxOf (L2.CX P w) P w K mg base [self, par] qual (defScope st) fI cdv A outer s H E) (defBody st) (tXi K f m)) : XiF P w K mg base c f 2 := by
  have hbi := F.bindsN hb
  obtain ⟨oc, od, dV, kV, doc, pm, an, cdv, ct, osl, rfl, lk, hcd, hD, hK⟩ := F.ex
  refine ⟨C, fI, _, [self, par], gC, T, iC, tI, hbi, fn_of lk hcd S (fun vs H Q E ⟨a, v, e, _⟩ => by rw [e]; rfl) fun A outer s H vs Q E hr hq => ⟨_, h cdv A outer s H E hr, ?_⟩⟩
  obtain ⟨a, v, rfl, ha, q⟩ := hq
  exact ⟨_, rfl, a, C, _, rfl, by show 1 ≤ 1000; omega, T, ha, _, rfl, _, rfl, a, C, rfl, T, hno, .inl ⟨ha, fun d h1 h2 => q d h1 h2⟩⟩
end
/-! ### a caught exception as a value -/
structure XvC (K : PySem.W.Frag) (C : Addr) : Prop where
  f : XfC K C
  i : ExcC K C
theorem xvB_ok {K : PySem.W.Frag} {C : Addr} (h : xvB K C = true) : XvC K C := by
  simp only [xvB, Bool.and_eq_true, decide_eq_true_eq] at h
  obtain ⟨h1, h2, h3, h4, h5, h6, h7, h8⟩ := h
  exact ⟨⟨h1, h2, h3, h4⟩, ⟨h1, h2, h3, h4, h5, h6, h7, h8⟩⟩
/-- an exception's field, asked by its name -/
def fldX (f : Str) (v : MV) (h : MH) : MR MV := match v with
  | .ref n => match h[n]? with
    | some (.exc _ fs) => match fs.lookup f with
      | some x => .ok x h
      | none => .stuck
    | _ => .stuck
  | _ => .stuck
def mFldX (f : Str) (cs : List Str) (a : MEx) : MEx := fun l h => (a l h).bind fun v h1 => match v with
  | .ref n => match h1[n]? with
    | some (.exc c fs) => if c ∈ cs then (match fs.lookup f with
      | some x => .ok x h1
      | none => .stuck) else .stuck
    | _ => .stuck
  | _ => .stuck
theorem FR.look {K : PySem.W.Frag} {mg : Str → Option Value} {γ ι : List Addr} {H : Hp} {fs : List (Str × MV)} {gs : List (Str × V)} (r : FR K mg γ ι H fs gs) {f : Str} {x : MV} (e : fs.lookup f = some x) : ∃ v, gs.lookup f = some v ∧ VR K mg γ ι H x v := by
  induction r with
  | nil => cases e
  | @cons k y v xs vs a b ih =>
    rw [List.lookup_cons] at e ⊢
    by_cases hk : (f == k) = true
    · rw [hk] at e ⊢
      cases e
      exact ⟨v, rfl, a⟩
    · have hk' : (f == k) = false := by simpa using hk
      rw [hk'] at e ⊢
      exact ih e
section
variable {X : Cx} {W : WX} {pos : Pos}
theorem me_fldX {f : Str} {cs : List Str} {e : Expr} {m : MEx} (he : ME X W e m) (hc : ∀ c ∈ cs, ∀ C, X.mg c = some (.ref C) → XvC X.K C ∧ PySem.W.findIn X.K (.ref C) f = some none) (hb : attributeBase e f X.env (eval e X.env) = eval e X.env := by rfl) : ME X W (.Attribute e f pos) (mFldX f cs m) := by
  refine ⟨fun pins s σ H Q I ⟨γ, ι, l, h, sm, lr, p⟩ => ?_⟩
  refine attr_of hb (thn (he.run pins s σ H _ I ⟨γ, ι, l, h, sm, lr, p.seq (rel := rV X) (R := fun V H' => ∃ (a C d : Addr) (gs : List (Str × L2.V)) (v : L2.V), V = .ref a ∧ H' a = some (.ext (ExP (.ref C) (some d) a)) ∧ H' d = some (.xd gs) ∧ gs.lookup f = some v ∧ (XvC X.K C ∧ PySem.W.findIn X.K (.ref C) f = some none) ∧ Q v H') fun ι1 x h1 b H1 e1 ⟨s1, r1⟩ p1 => ?_⟩) fun u s1 hh => ?_)
  · split at p1
    · rename_i n
      split at p1
      · rename_i c fs hn
        split at p1
        · rename_i hcs
          split at p1
          · rename_i x ex
            cases r1 with
            | @ref _ a ea =>
            obtain ⟨w, hw, cr⟩ := s1.cell hn ea
            cases cr with
            | exc0 g => cases ex
            | exc1 g hd h2 h3 fr =>
              obtain ⟨v, ev, rv⟩ := FR.look fr ex
              exact ⟨a, _, _, _, v, rfl, hw, hd, ev, hc c hcs _ g, p1.ok ⟨s1, rv⟩⟩
          · exact p1.elim
        · exact p1.elim
      · exact p1.elim
    · exact p1.elim
  · obtain ⟨x, H1, I1, rx, a, C, dd, gs, v, rfl, ha, hd, l1, ⟨T, hno⟩, q⟩ := hh
    have : u = Value.ref a := rx
    subst this
    obtain ⟨⟨oe, vs, ho, hz, hdt⟩, _⟩ : ExP (.ref C) (some dd) a s1.heap ∧ True := ⟨(I1.hok a _ ha).1, trivial⟩
    obtain ⟨mA, hns, hr⟩ : ∃ mA, s1.heap.Ns1 dd mA ∧ ∀ g, RelO (gs.lookup g) (mA g) := I1.hok dd _ hd
    obtain ⟨od, hod, hl⟩ := lookIn_ns hns
    obtain ⟨y, hy, ry⟩ := RelO.some_of (v := v) (o := mA f) (by rw [← l1]; exact hr f)
    exact HandSPX.exc_get I1.kIn (⟨ho, hz.1, by unfold PySem.W.notCls; rw [hdt] <;> rfl, by rw [hz.2]; exact hod⟩ : PySem.W.InstAt s1.heap a oe C (some od)) T.f.ga T.f.gg T.f.exC (PySem.W.findObj_own T.f.hdC hno rfl (by rw [hl, hy])) (handed_of ry) ⟨v, H1, I1.tok _, ry, q⟩
end
end ML

set_option maxRecDepth 100000
set_option maxHeartbeats 4000000
/-! ML13: isinstance of exceptions held as values. -/
namespace ML
open PySem PySem.Spec PyProof.Rows L2
section
open PySem.W PySem.Calls
variable {pr : Program} {w : World} {A : Around} {E : Value → Shared → Prop} {s : Shared} {K : Frag} {x D : Addr} {ox : Obj} {od : Option Obj}
theorem clsV_read {Q : Option Value → Shared → Prop} (T : ExcC K D) (X : K.In s.heap) (I : InstAt s.heap x ox D od) (h : Q (some (.ref D)) { s with toks := s.toks + 1 }) : wpAny (model pr w) A (getAttr? (.ref x) "__class__") Q E s := by
  obtain ⟨cd, hc, _⟩ := any_some T.hd
  have hf : findObj K D od "__class__" = some (.bind (.builtin "getset_descriptor.__get__") (.builtin "object.__class__")) := by
    unfold findObj; rw [hc, Option.bind_some, T.ha, Option.bind_some]; simp [T.hn, T.ht]
  obtain ⟨hp, g, d, t, os⟩ := s
  have M0 := I.type (M := model pr w); have M1 := looks_findIn (M := model pr w) X T.hg; have M2 := looks_findIn (M := model pr w) X T.hk; have M3 := looks_find (M := model pr w) X I hf
  have sub : Looks (model pr w) hp (isInstance (.ref x) (.type "BaseException")) true := M0.andThen (looks_subIn X T.hs)
  unfold getAttr? getAttrBy? getAttrBy; refine wpAny_bind (wpAny_mkText (wpAny_bind (wpAny_attempt (wpAny_holding (wpAny_bind (M0.at (wpAny_bind (M1.at ?_))))))))
  show wpAny _ _ (if (onTheHeap (Value.ref D) && Value.builtin "BaseException.__getattribute__" == Value.builtin "object.__getattribute__") = true then _ else _) _ _ _
  have nq : (Value.builtin "BaseException.__getattribute__" == Value.builtin "object.__getattribute__") = false := by decide +kernel
  rw [nq, Bool.and_false, if_neg Bool.false_ne_true]
  unfold getAttrByItsOwn; unfold hookBefore; refine wpAny_bind ?_
  rw [if_pos (show onTheHeap (Value.ref D) = true by rfl)]; refine M2.at (wpAny_bind (wpAny_attempt (wpAny_holding ?_)))
  unfold callGetattribute; rw [if_neg (by decide)]; unfold boundAndCalled; rw [PySem.F.excAttr_ValueError.ga.bind (.ref x)]; refine wpAny_bind (wpAny_pure ?_)
  show wpAny _ _ (call (.builtin "BaseException.__getattribute__") [.ref x, .str "__class__" t]) _ _ _
  refine wpAny_call (codeAny_call_builtin PySem.F.excAttr_ValueError.ga.plain PySem.F.entry_bexc_ga (@check_slot (model pr w) _ _ ⟨hp, g, d, t + 1, os⟩ "BaseException.__getattribute__" "BaseException" "__getattribute__" (.ref x) [.str "__class__" t] [] _ (by decide +kernel) (by decide +kernel) sub (PySem.F.args_bexc_ga (.ref x) (.str "__class__" t)) ?_))
  unfold Builtin.«object.__getattribute__»
  refine wpAny_bind (wpAny_of_eq (a := ((Value.ref x : Value), [Value.str "__class__" t])) (by first | rfl | (simp only [Builtin.slotArgs]; rfl)) (wpAny_bind (wpAny_pure (wpAny_bind (M0.at (wpAny_bind (M3.at ?_)))))))
  show wpAny _ _ (holding [Value.builtin "object.__class__"] (call (.builtin "getset_descriptor.__get__") [.builtin "object.__class__", .ref x, .ref D]) >>= ret) _ _ _
  refine wpAny_bind (wpAny_holding (wpAny_call (class_get (s := ⟨hp, g, d, t + 1, os⟩) (ox := ox) (od := od) X I T.hm (wpAny_pure ?_))))
  show wpAny _ _ (handedOut (.ref D)) _ _ _
  rw [handedOut_of (v := .ref D) rfl]
  first | exact wpAny_pure (wpAny_pure h) | exact wpAny_pure h | exact wpAny_pure (wpAny_bind (wpAny_pure (wpAny_pure h)))
theorem kitV (T : ExcC K D) : KitX K (.ref x) (.ref D) (fun h => ∃ ox od, InstAt h x ox D od) := by
  obtain ⟨cd, hcd, _⟩ := any_some T.hd
  have ho : ∃ c' d' cd' sl', K.lookup D = some ⟨c', d', .cls cd', sl'⟩ := by
    unfold clsIn at hcd; split at hcd
    · exact ⟨_, _, _, _, by assumption⟩
    · cases hcd
  obtain ⟨c', d', cd', sl', ho⟩ := ho
  refine ⟨fun _ _ _ ⟨_, _, I⟩ => I.type, fun _ _ X _ A' Q' E' s' k q => ?_, fun h tp dd its n sl X htp => ?_, fun X ⟨_, _, I⟩ k => clsV_read T X I k⟩
  · unfold isType; unfold loadHead
    exact wpAny_bind (wpAny_loadPart (k _ _ (X _ _ ho)) (wpAny_pure q))
  · refine Bool.eq_false_iff.mpr fun q => ?_
    have e : D = tp := Value.ref.inj (beq_iff_eq.mp q)
    rw [← e] at htp
    have := (X _ _ ho).symm.trans htp
    cases this
end
/-- isinstance of an exception, or of None: the classes that answer yes, those that answer no -/
def isX (yes no : List Str) (v : MV) (h : MH) : MR MV := match v with
  | .non => .ok (.bl false) h
  | .ref n => match h[n]? with
    | some (.exc c _) => if c ∈ yes then .ok (.bl true) h else if c ∈ no then .ok (.bl false) h else .stuck
    | _ => .stuck
  | _ => .stuck
def mIsX (yes no : List Str) (a : MEx) : MEx := fun l h => (a l h).bind (isX yes no)
/-- what isinstance tells of the class's instances -/
def IsTells (K : PySem.W.Frag) (mg : Str → Option Value) (us : List Value) (yes no : List Str) : Prop := PySem.W.kitAny K (.type "NoneType") us = some false ∧ (∀ c ∈ yes, ∀ C, mg c = some (.ref C) → XvC K C ∧ PySem.W.kitAny K (.ref C) us = some true) ∧
  ∀ c ∈ no, ∀ C, mg c = some (.ref C) → XvC K C ∧ PySem.W.kitAny K (.ref C) us = some false
section
variable {X : Cx} {W : WX} {pos : Pos}
theorem kitAny_one {K : PySem.W.Frag} {t u : Value} {b : Bool} (h : PySem.W.kitAny K t [u] = some b) : PySem.W.kitOne K t u = some b := by
  unfold PySem.W.kitAny at h
  split at h
  · rename_i e; rw [e]; exact h
  · rename_i e; rw [e]; exact h
  · cases h
/-- by values: what is asked, the classes -/
def rIsX (K : PySem.W.Frag) : List L2.V → Hp → VK → Prop := fun xs H Q => ∃ (x c : L2.V) (us : List Value) (b : Bool), xs = [x, c] ∧ ((∃ u, us = [u] ∧ ClsV c u) ∨ ∃ tp cs, c = .ref tp ∧ H tp = some (.tup cs) ∧ Paired ClsV cs us) ∧
  ((x = .non ∧ PySem.W.kitAny K (.type "NoneType") us = some b) ∨ ∃ a C d, x = .ref a ∧ H a = some (.ext (ExP (.ref C) d a)) ∧ (∀ dd, d = some dd → ∃ fs, H dd = some (.xd fs)) ∧ XvC K C ∧ PySem.W.kitAny K (.ref C) us = some b) ∧ Q (.bl b) H
theorem call_isX : CallR X (.builtin "isinstance") (rIsX X.K) := by
  rintro pins s σ H xs us Q I r ⟨x, c, ws, b, rfl, hc, hx, q⟩
  obtain ⟨u1, u2, rfl, r1, r2⟩ := vals2 r
  have main : ∃ (t : Value) (P : Heap → Prop), PySem.W.KitX X.K u1 t P ∧ P s.heap ∧ u1 ≠ .builtin "__main__.__loader__#opaque" ∧ PySem.W.kitAny X.K t ws = some b := by
    rcases hx with ⟨rfl, e⟩ | ⟨a, C, d, rfl, ha, hd, T, e⟩
    · have : u1 = Value.none := r1
      subst this
      exact ⟨_, _, PySem.W.kitx_none, trivial, (fun z => nomatch z), e⟩
    · have : u1 = Value.ref a := r1
      subst this
      obtain ⟨oe, vs, h1, ⟨h2, h3⟩, h4⟩ : ExP (.ref C) d a s.heap := (I.hok a _ ha).1
      refine ⟨_, _, kitV T.i, ?_, (fun z => nomatch z), e⟩
      cases d with
      | none => exact ⟨oe, none, h1, h2, by unfold PySem.W.notCls; rw [h4] <;> rfl, by rw [h3]; trivial⟩
      | some dd =>
        obtain ⟨fs, hfs⟩ := hd dd rfl
        obtain ⟨mA, hns, _⟩ : ∃ mA, s.heap.Ns1 dd mA ∧ ∀ g, RelO (fs.lookup g) (mA g) := I.hok dd _ hfs
        obtain ⟨o, es, ep, ho, _⟩ := hns
        exact ⟨oe, some o, h1, h2, by unfold PySem.W.notCls; rw [h4] <;> rfl, by rw [h3]; exact ho⟩
  obtain ⟨t, P, Z, p, hne, e⟩ := main
  rcases hc with ⟨u, rfl, k⟩ | ⟨tp, cs, rfl, hT, k⟩
  · have := k.eq r2
    subst this
    exact PySem.W.kia_one Z I.kIn p (kitAny_one e) hne fun tk => ⟨.bl b, H, I.tok tk, rfl, q⟩
  · have : u2 = Value.ref tp := r2
    subst this
    obtain ⟨_, its, rv, o, h1, h2, n, h3⟩ : ObjOk X.prog X.w H s.heap tp (.tup cs) := I.hok tp _ hT
    have := ClsV.all k rv
    subst this
    obtain ⟨oc, od, dt, sl⟩ := o
    simp only at h2 h3
    subst h2 h3
    exact PySem.W.kia_tup Z I.kIn p h1 e hne fun tk => ⟨.bl b, H, I.tok tk, rfl, q⟩
theorem isX_of {m : MEx} {yes no : List Str} {σ : L2.St} {H : Hp} {Q : VK} {us : List Value} {c : L2.V} (T : IsTells X.K X.mg us yes no) (h0 : TM X W (rV X) (mIsX yes no m) σ H Q)
    (R : L2.V → Hp → Prop) (hR : ∀ V b H1, ((V = .non ∧ PySem.W.kitAny X.K (.type "NoneType") us = some b) ∨ ∃ a C d, V = .ref a ∧ H1 a = some (.ext (ExP (.ref C) d a)) ∧ (∀ dd, d = some dd → ∃ fs, H1 dd = some (.xd fs)) ∧ XvC X.K C ∧ PySem.W.kitAny X.K (.ref C) us = some b) → Q (.bl b) H1 → (∀ p w, H1 p = none → Q (.bl b) (upd H1 p w)) → R V H1) :
    TM X W (rV X) m σ H R := by
  obtain ⟨γ, ι, l, h, s, lr, p⟩ := h0
  refine ⟨γ, ι, l, h, s, lr, p.seq (rel := rV X) fun ι1 x h1 V H1 e1 ⟨s1, r1⟩ p1 => ?_⟩
  unfold isX at p1
  split at p1
  · cases r1
    exact hR _ _ _ (.inl ⟨rfl, T.1⟩) (p1.ok ⟨s1, .bl _⟩) fun p w hp => by
      obtain ⟨s2, e2⟩ := s1.lay (w := w) hp
      exact p1.okE e2 ⟨s2, .bl _⟩
  · rename_i n
    cases r1 with
    | @ref _ a ea =>
    split at p1
    · rename_i c fs hn
      obtain ⟨w, hw, cr⟩ := s1.cell hn ea
      have fin : ∃ C d, X.mg c = some (.ref C) ∧ H1 a = some (.ext (ExP (.ref C) d a)) ∧ ∀ dd, d = some dd → ∃ fs, H1 dd = some (.xd fs) := by
        cases cr with
        | exc0 g => exact ⟨_, _, g, hw, fun dd z => nomatch z⟩
        | exc1 g hd h2 h3 fr => exact ⟨_, _, g, hw, fun dd z => by cases z; exact ⟨_, hd⟩⟩
      obtain ⟨C, d, g, ha, hd⟩ := fin
      split at p1
      · rename_i hy
        obtain ⟨t1, t2⟩ := T.2.1 c hy C g
        exact hR _ _ _ (.inr ⟨a, C, d, rfl, ha, hd, t1, t2⟩) (p1.ok ⟨s1, .bl _⟩) fun p w hp => (s1.lay (w := w) hp).elim fun s2 e2 => p1.okE e2 ⟨s2, .bl _⟩
      · split at p1
        · rename_i hy
          obtain ⟨t1, t2⟩ := T.2.2 c hy C g
          exact hR _ _ _ (.inr ⟨a, C, d, rfl, ha, hd, t1, t2⟩) (p1.ok ⟨s1, .bl _⟩) fun p w hp => (s1.lay (w := w) hp).elim fun s2 e2 => p1.okE e2 ⟨s2, .bl _⟩
        · exact p1.elim
    · exact p1.elim
  · exact p1.elim
/-- isinstance(e, C), an own class or a built-in one -/
theorem me_isX {c : Str} {u : Value} {v : L2.V} {e : Expr} {m : MEx} {yes no : List Str} {p p2 : Pos} (hm : X.mg "isinstance" = none) (hu : (X.mg c = some u ∧ v = .ref (match u with | .ref a => a | _ => 0)) ∨ (X.mg c = none ∧ bootBuiltins c = some u)) (hk : ClsV v u) (T : IsTells X.K X.mg [u] yes no) (ha : ME X W e m)
    (hg : Gl X "isinstance" := by rfl) (hg2 : Gl X c := by rfl) (hn2 : c ≠ "__name__" := by decide) (hd2 : (c == ("__debug__" : Str)) = false := by decide) (he : starEach [e, .Name c p2] X.env = (false, eval e X.env) :: starEach [.Name c p2] X.env := by rfl)
    (he2 : starEach [.Name c p2] X.env = (false, eval (.Name c p2) X.env) :: starEach [] X.env := by rfl) (hpl : (backTo pos (starEach [.Name c p2] X.env)).any (·.1) = false := by rfl) :
    ME X W (.Call (.Name "isinstance" p) [e, .Name c p2] [] pos) (mIsX yes no m) := by
  have rv : RelV v u := by cases hk <;> rfl
  have pt : PE X (.Name c p2) (tC v) := by
    rcases hu with ⟨h1, _⟩ | ⟨h1, h2⟩
    · exact pe_glob hg2 h1 rv hd2
    · exact pe_bltn hg2 h1 h2 rv hn2 hd2
  exact peW (pe_callB call_isX hg hm (by decide +kernel) (pa_cons ha (pa_cons pt pa_nil he2) he) (by decide) (by decide) he hpl) fun σ H Q h0 =>
    isX_of (c := v) T h0 _ fun V b H1 hx q _ => ⟨V, v, [u], b, rfl, .inl ⟨u, rfl, hk⟩, hx, q⟩
/-- isinstance(e, (C, D, ..)), own classes -/
theorem me_isXT {e : Expr} {es : List Expr} {m : MEx} {yes no : List Str} {k : Nat} {p p2 : Pos} {t : TA} {vs : List L2.V} {us : List Value} (hm : X.mg "isinstance" = none) (hT : PA X es t) (ht : ∀ σ H Q, Q vs H → t σ H Q) (hv : Paired ClsV vs us) (hl : vs.length ≤ 1000)
    (T : IsTells X.K X.mg us yes no) (ha : ME X W e m) (hg : Gl X "isinstance" := by rfl) (he : starEach [e, .Tuple es k p2] X.env = (false, eval e X.env) :: starEach [.Tuple es k p2] X.env := by rfl)
    (he2 : starEach [.Tuple es k p2] X.env = (false, eval (.Tuple es k p2) X.env) :: starEach [] X.env := by rfl) (hpl : (backTo pos (starEach [.Tuple es k p2] X.env)).any (·.1) = false := by rfl) :
    ME X W (.Call (.Name "isinstance" p) [e, .Tuple es k p2] [] pos) (mIsX yes no m) :=
  peW (pe_callB call_isX hg hm (by decide +kernel) (pa_cons ha (pa_cons (pe_tup hT) pa_nil he2) he) (by decide) (by decide) he hpl) fun σ H Q h0 =>
    isX_of (c := .non) T h0 _ fun V b H1 hx q q2 => ht _ _ _ ⟨line_le' (by show vs.length ≤ 16777216; omega), fun tp htp => ⟨V, .ref tp, us, b, rfl, .inr ⟨tp, vs, rfl, upd_same, hv⟩, hx.imp id (fun ⟨a, C, d, h1, h2, h3, h4, h5⟩ => ⟨a, C, d, h1, by
      rw [upd_ne (ne_of_none h2 htp)]; exact h2, fun dd z => by
      obtain ⟨fs, hf⟩ := h3 dd z
      exact ⟨fs, by rw [upd_ne (ne_of_none hf htp)]; exact hf⟩, h4, h5⟩), q2 tp _ htp⟩⟩
end
end ML

set_option maxRecDepth 100000
set_option maxHeartbeats 4000000
/-! ML14: facts of a law's text, by Bools. -/
namespace ML
open PySem PySem.Spec PyProof.Rows L2
theorem exAt {xs : List (PySem.W.Frag → Bool)} {K : PySem.W.Frag} (h : exAll xs K = true) (i : Nat) {f : PySem.W.Frag → Bool} (e : xs[i]? = some f := by rfl) : f K = true := List.all_eq_true.mp h f (List.mem_of_getElem? e)
section
variable {K : PySem.W.Frag} {h : Heap} {mg : Str → Option Value}
theorem gloB_ok (X : K.In h) (G : h.Ns mainGlobals mg) {x : Str} (c : gloB x K = true) : mg x = some (.ref (He.ga K x)) := PySem.W.mg_of X G (He.eqO_ok c)
/-! classes of exceptions -/
theorem xcB_ok (X : K.In h) (G : h.Ns mainGlobals mg) {x : Str} (c : xcB x K = true) : XcF K mg x := by
  obtain ⟨c1, c2⟩ := Bool.and_eq_true_iff.mp c
  obtain ⟨e1, e2, e3, e4⟩ := He.exc_ok c2
  exact ⟨_, gloB_ok X G c1, e1, e2, e3, e4⟩
/-- .. with a field -/
structure XiT (K : PySem.W.Frag) (mg : Str → Option Value) (c f : Str) : Prop where
  gC : mg c = some (.ref (He.ga K c))
  T : OexC K (He.ga K c)
  iC : PySem.W.findIn K (.ref (He.ga K c)) "__init__" = some (some (.ref (He.ma K (He.ga K c) "__init__")))
  tI : PySem.W.typeIn K (.ref (He.ma K (He.ga K c) "__init__")) = some (.type "function")
  no : PySem.W.findIn K (.ref (He.ga K c)) f = some none
theorem xiB_ok (X : K.In h) (G : h.Ns mainGlobals mg) {x f : Str} (c : xiB x f K = true) : XiT K mg x f := by
  simp only [xiB, Bool.and_eq_true] at c
  obtain ⟨c1, c2, c3, c4, c5⟩ := c
  exact ⟨gloB_ok X G c1, oexcB_ok c2, He.eqO_ok c3, of_decide_eq_true c4, He.eqO_ok c5⟩
/-- .. whose base's __init__ is asked -/
structure XbT (K : PySem.W.Frag) (mg : Str → Option Value) (b : Str) : Prop where
  g : mg b = some (.ref (He.ga K b))
  c : XbC K (He.ga K b)
theorem xbTB_ok (X : K.In h) (G : h.Ns mainGlobals mg) {x : Str} (c : xbTB x K = true) : XbT K mg x := by
  obtain ⟨c1, c2⟩ := Bool.and_eq_true_iff.mp c
  exact ⟨gloB_ok X G c1, xbB_ok c2⟩
/-! except clauses -/
structure TlF (K : PySem.W.Frag) (mg : Str → Option Value) (x : Str) (yes no : List Str) : Prop where
  ex : ∃ D, mg x = some D ∧ (∀ c ∈ yes, ∃ C, mg c = some (.ref C) ∧ PySem.W.exmOne K (.ref C) D = some true) ∧ ∀ c ∈ no, ∃ C, mg c = some (.ref C) ∧ PySem.W.exmOne K (.ref C) D = some false
theorem tlB_ok (X : K.In h) (G : h.Ns mainGlobals mg) {x : Str} {yes no : List Str} (c : tlB x yes no K = true) : TlF K mg x yes no := by
  obtain ⟨c1, c2⟩ := Bool.and_eq_true_iff.mp c
  obtain ⟨c2, c3⟩ := Bool.and_eq_true_iff.mp c2
  refine ⟨_, gloB_ok X G c1, fun c hc => ?_, fun c hc => ?_⟩
  · obtain ⟨h1, h2⟩ := Bool.and_eq_true_iff.mp (List.all_eq_true.mp c2 c hc)
    exact ⟨_, gloB_ok X G h1, of_decide_eq_true h2⟩
  · obtain ⟨h1, h2⟩ := Bool.and_eq_true_iff.mp (List.all_eq_true.mp c3 c hc)
    exact ⟨_, gloB_ok X G h1, of_decide_eq_true h2⟩
/-! isinstance -/
def Dc.V (K : PySem.W.Frag) : Dc → L2.V
  | .own c => .ref (He.ga K c)
  | .ty n => .ty n
theorem Dc.cv {K : PySem.W.Frag} : ∀ d : Dc, ClsV (d.V K) (d.v K)
  | .own _ => .own _
  | .ty _ => .ty _
theorem Dc.cvs {K : PySem.W.Frag} : ∀ ds : List Dc, Paired ClsV (ds.map (Dc.V K)) (ds.map (Dc.v K))
  | [] => .nil
  | d :: ds => .cons d.cv (Dc.cvs ds)
structure IsF (K : PySem.W.Frag) (mg : Str → Option Value) (ds : List Dc) (yes no : List Str) : Prop where
  t : IsTells K mg (ds.map (Dc.v K)) yes no
  g : ∀ c, .own c ∈ ds → mg c = some (.ref (He.ga K c))
theorem isB_ok (X : K.In h) (G : h.Ns mainGlobals mg) {ds : List Dc} {yes no : List Str} (c : isB ds yes no K = true) : IsF K mg ds yes no := by
  obtain ⟨c0, c1⟩ := Bool.and_eq_true_iff.mp c
  obtain ⟨c1, c2⟩ := Bool.and_eq_true_iff.mp c1
  obtain ⟨c2, c3⟩ := Bool.and_eq_true_iff.mp c2
  have one : ∀ {c : Str} {b : Bool}, (gloB c K && (xvB K (He.ga K c) && decide (PySem.W.kitAny K (.ref (He.ga K c)) (ds.map (Dc.v K)) = some b))) = true → ∀ C, mg c = some (.ref C) → XvC K C ∧ PySem.W.kitAny K (.ref C) (ds.map (Dc.v K)) = some b := fun {c b} h C g => by
    obtain ⟨h1, h2⟩ := Bool.and_eq_true_iff.mp h
    obtain ⟨h2, h3⟩ := Bool.and_eq_true_iff.mp h2
    rw [gloB_ok X G h1] at g
    cases g
    exact ⟨xvB_ok h2, of_decide_eq_true h3⟩
  exact ⟨⟨of_decide_eq_true c1, fun c hc => one (List.all_eq_true.mp c2 c hc), fun c hc => one (List.all_eq_true.mp c3 c hc)⟩, fun c hc => gloB_ok X G (List.all_eq_true.mp c0 _ hc)⟩
/-! fields of exceptions -/
structure FxF (K : PySem.W.Frag) (mg : Str → Option Value) (f : Str) (cs : List Str) : Prop where
  t : ∀ c ∈ cs, ∀ C, mg c = some (.ref C) → XvC K C ∧ PySem.W.findIn K (.ref C) f = some none
theorem fxB_ok (X : K.In h) (G : h.Ns mainGlobals mg) {f : Str} {cs : List Str} (c : fxB f cs K = true) : FxF K mg f cs := by
  refine ⟨fun x hx C g => ?_⟩
  obtain ⟨h1, h2⟩ := Bool.and_eq_true_iff.mp (List.all_eq_true.mp c x hx)
  obtain ⟨h2, h3⟩ := Bool.and_eq_true_iff.mp h2
  rw [gloB_ok X G h1] at g
  cases g
  exact ⟨xvB_ok h2, He.eqO_ok h3⟩
end
/-! the rules by these facts -/
section
variable {X : Cx} {W : WX} {pos : Pos}
theorem hds_plain {x : Str} {np : Pos} {b0 : Stmt} {su : List Stmt} {ph : Pos} {hds : List ExceptHandler} {yes no : List Str} {m : MSt} {ks : List Cl} (T : TlF X.K X.mg x yes no) (hs : ∀ a pn, MSs (X.suite a pn) W0 (b0 :: su) m) (r : HdsM X hds ks) (hg : Gl X x := by rfl) (hdb : (x == ("__debug__" : Str)) = false := by decide) :
    HdsM X (.ExceptHandler (some (.Name x np)) none (b0 :: su) ph :: hds) (⟨yes, no, none, m⟩ :: ks) := by
  obtain ⟨D, h1, h2, h3⟩ := T.ex
  exact .plain D ⟨⟨hg, hdb, .inl h1⟩, h2, h3⟩ hs r
theorem hds_named {x n : Str} {np : Pos} {b0 : Stmt} {su : List Stmt} {ph : Pos} {hds : List ExceptHandler} {yes no : List Str} {i : Nat} {m : MSt} {ks : List Cl} (T : TlF X.K X.mg x yes no) (hs : ∀ a pn, MSs (X.suite a pn) W0 (b0 :: su) m) (r : HdsM X hds ks) (hi : X.N[i]? = some n := by rfl) (hl : X.env.kindOf n = some .local := by rfl) (hg : Gl X x := by rfl) (hdb : (x == ("__debug__" : Str)) = false := by decide) :
    HdsM X (.ExceptHandler (some (.Name x np)) (some n) (b0 :: su) ph :: hds) (⟨yes, no, some i, m⟩ :: ks) := by
  obtain ⟨D, h1, h2, h3⟩ := T.ex
  exact .named D ⟨⟨hg, hdb, .inl h1⟩, h2, h3⟩ hi hl hs r
theorem me_isXo {c : Str} {e : Expr} {m : MEx} {yes no : List Str} {p p2 : Pos} (hm : X.mg "isinstance" = none) (F : IsF X.K X.mg [.own c] yes no) (ha : ME X W e m) (hg : Gl X "isinstance" := by rfl) (hg2 : Gl X c := by rfl) (hn2 : c ≠ "__name__" := by decide) (hd2 : (c == ("__debug__" : Str)) = false := by decide)
    (he : starEach [e, .Name c p2] X.env = (false, eval e X.env) :: starEach [.Name c p2] X.env := by rfl) (he2 : starEach [.Name c p2] X.env = (false, eval (.Name c p2) X.env) :: starEach [] X.env := by rfl) (hpl : (backTo pos (starEach [.Name c p2] X.env)).any (·.1) = false := by rfl) :
    ME X W (.Call (.Name "isinstance" p) [e, .Name c p2] [] pos) (mIsX yes no m) :=
  me_isX (u := .ref (He.ga X.K c)) (v := .ref (He.ga X.K c)) hm (.inl ⟨F.g c (List.mem_singleton.mpr rfl), rfl⟩) (.own _) F.t ha hg hg2 hn2 hd2 he he2 hpl
theorem me_isXb {c : Str} {n : String} {e : Expr} {m : MEx} {yes no : List Str} {p p2 : Pos} (hm : X.mg "isinstance" = none) (hm2 : X.mg c = none) (hv : bootBuiltins c = some (.type n)) (F : IsF X.K X.mg [.ty n] yes no) (ha : ME X W e m) (hg : Gl X "isinstance" := by rfl) (hg2 : Gl X c := by rfl) (hn2 : c ≠ "__name__" := by decide) (hd2 : (c == ("__debug__" : Str)) = false := by decide)
    (he : starEach [e, .Name c p2] X.env = (false, eval e X.env) :: starEach [.Name c p2] X.env := by rfl) (he2 : starEach [.Name c p2] X.env = (false, eval (.Name c p2) X.env) :: starEach [] X.env := by rfl) (hpl : (backTo pos (starEach [.Name c p2] X.env)).any (·.1) = false := by rfl) :
    ME X W (.Call (.Name "isinstance" p) [e, .Name c p2] [] pos) (mIsX yes no m) :=
  me_isX (u := .type n) (v := .ty n) hm (.inr ⟨hm2, hv⟩) (.ty _) F.t ha hg hg2 hn2 hd2 he he2 hpl
theorem pe_own {c : Str} {p : Pos} (h : X.mg c = some (.ref (He.ga X.K c))) (hg : Gl X c := by rfl) (hd : (c == ("__debug__" : Str)) = false := by decide) : PE X (.Name c p) (tC (Dc.V X.K (.own c))) := pe_glob (v := .ref (He.ga X.K c)) hg h rfl hd
theorem me_fx {f : Str} {cs : List Str} {e : Expr} {m : MEx} (F : FxF X.K X.mg f cs) (he : ME X W e m) (hb : attributeBase e f X.env (eval e X.env) = eval e X.env := by rfl) : ME X W (.Attribute e f pos) (mFldX f cs m) := me_fldX he F.t hb
theorem me_isXs {ds : List Dc} {e : Expr} {es : List Expr} {m : MEx} {yes no : List Str} {k : Nat} {p p2 : Pos} {t : TA} (hm : X.mg "isinstance" = none) (F : IsF X.K X.mg ds yes no) (hT : PA X es t) (ht : ∀ σ H Q, Q (ds.map (Dc.V X.K)) H → t σ H Q) (ha : ME X W e m) (hl : ds.length ≤ 1000 := by decide) (hg : Gl X "isinstance" := by rfl)
    (he : starEach [e, .Tuple es k p2] X.env = (false, eval e X.env) :: starEach [.Tuple es k p2] X.env := by rfl) (he2 : starEach [.Tuple es k p2] X.env = (false, eval (.Tuple es k p2) X.env) :: starEach [] X.env := by rfl) (hpl : (backTo pos (starEach [.Tuple es k p2] X.env)).any (·.1) = false := by rfl) :
    ME X W (.Call (.Name "isinstance" p) [e, .Tuple es k p2] [] pos) (mIsX yes no m) := me_isXT hm hT ht (Dc.cvs ds) (by rw [List.length_map]; exact hl) F.t ha hg he he2 hpl
end
end ML
namespace ML
open PySem PySem.Spec PyProof.Rows L2
theorem xi_mk {P : Program} {w : World} {K : PySem.W.Frag} {mg : Str → Option Value} {base : Heap} {c f m b self par nm qual : Str} {st : Stmt} {fd : FuncData} (T : XiT K mg c f) (B : XbT K mg b) (F : FnP K nm qual st (He.fAd K (c, some "__init__")) fd) (S : FnScope [self, par] [self, par] (defScope st))
    (hb : ∀ (kV doc pm : Value) (an : Option Addr) (cdv ct : Value) (us : List Value), us.length = ([self, par] : List Str).length → bindArgs (PySem.W.fnOf nm qual (defArgs st) (defBody st) (defScope st) .none kV doc pm an cdv ct) ⟨us, []⟩ = pure (([self, par] : List Str).zip us))
    (h : ∀ (cdv : Value) (A : Around) (outer : List Env) (s : Shared) (H : Hp) (E : XK) (fI : Addr), Room 1 (A.deeper (envOfC qual (defScope st) s.heap.objs.size fI cdv)) →
      PSs (cxOf (L2.CX P w) P w K mg base [self, par] qual (defScope st) fI cdv A outer s H E) (defBody st) (tXi K f m)) : XiF P w K mg base c f 2 :=
  xi_of F S hb T.gC T.T T.iC T.tI T.no fun cdv A outer s H E hr => h cdv A outer s H E _ hr
end ML
namespace ML
open PySem PySem.Spec PyProof.Rows L2
/-! ### the head's facts, with the class statics in sight -/
def obsM (n : Nat) (fa : List He.Fa) (fn : List He.DefD) (ex : PySem.W.Frag → Bool) (g : Addr → Option Obj) : He.AlD × Bool := (He.obsD fa fn (He.frT g (asM g n)), ex (He.frT g (asM g n)))
def hookM (n : Nat) (fa : List He.Fa) (fn : List He.DefD) (ex : PySem.W.Frag → Bool) : PySem.W.Hook where
  α := He.AlD × Bool
  obs := fun t => obsM n fa fn ex t.heap.get?
  val := fun _ => (He.valD fn, true)
  says := fun _ h => ∃ K : PySem.W.Frag, K.In h ∧ SaysM fa fn ex K
  of := fun _ _ q => ⟨_, He.frT_in, congrArg Prod.fst q, congrArg Prod.snd q⟩
  keeps := fun _ _ _ ⟨K, i, c⟩ k => ⟨K, PySem.W.Frag.In.keeps i k, c⟩
theorem obsM_eq {n : Nat} {fa : List He.Fa} {fn : List He.DefD} {ex : PySem.W.Frag → Bool} {g : Addr → Option Obj} {t : Shared} (h : ∀ a, g a = t.heap.get? a) : obsM n fa fn ex g = (hookM n fa fn ex).obs t := by
  rw [show g = t.heap.get? from funext h]; rfl
end ML

set_option maxRecDepth 100000
set_option maxHeartbeats 4000000
/-! ML15: dicts; x in y. -/
namespace ML
open PySem PySem.Spec PyProof.Rows L2

/-! ### pairs -/
section
variable {κ α : Type} [DecidableEq κ]
def lookM (kvs : List (κ × α)) (k : κ) : Option α := (kvs.find? fun kv => decide (kv.1 = k)).map (·.2)
def putM (kvs : List (κ × α)) (k : κ) (v : α) : List (κ × α) := if (lookM kvs k).isSome then kvs.map (fun kv => if kv.1 = k then (kv.1, v) else kv) else kvs ++ [(k, v)]
def dropM (kvs : List (κ × α)) (k : κ) : List (κ × α) := kvs.filter fun kv => decide (kv.1 ≠ k)
@[simp] theorem lookM_nil (k : κ) : lookM ([] : List (κ × α)) k = none := rfl
theorem lookM_cons (p : κ × α) (r : List (κ × α)) (k : κ) : lookM (p :: r) k = if p.1 = k then some p.2 else lookM r k := by
  unfold lookM
  rw [List.find?_cons]
  by_cases h : p.1 = k
  · rw [if_pos h, decide_eq_true h]; rfl
  · rw [if_neg h, decide_eq_false h]
end
/-- an int, a text: a key -/
def keyM : MV → Option Key
  | .int i => some (.inl i)
  | .str x => some (.inr x)
  | _ => none
def mvK : Key → MV
  | .inl i => .int i
  | .inr x => .str x
section
variable {K : PySem.W.Frag} {mg : Str → Option Value} {γ ι : List Addr} {H : Hp}
theorem VR.key {x : MV} {V : L2.V} {k : Key} (r : VR K mg γ ι H x V) (e : keyM x = some k) : V = kV k := by
  cases r <;> cases e <;> rfl
theorem VR.kv (k : Key) : VR K mg γ ι H (mvK k) (kV k) := by
  cases k with
  | inl i => exact .int i
  | inr x => exact .str x
theorem FR.val {κ : Type} [DecidableEq κ] {xs : List (κ × MV)} {vs : List (κ × L2.V)} (r : FR K mg γ ι H xs vs) (k : κ) : (lookM xs k = none ∧ valV vs k = none) ∨ ∃ x v, lookM xs k = some x ∧ valV vs k = some v ∧ VR K mg γ ι H x v := by
  induction r with
  | nil => exact .inl ⟨rfl, rfl⟩
  | @cons j x v xs vs a b ih =>
    rw [lookM_cons]
    by_cases h : j = k
    · rw [if_pos h, valV_pos h]
      exact .inr ⟨x, v, rfl, rfl, a⟩
    · rw [if_neg h, valV_neg h]
      exact ih
theorem FR.length {κ : Type} {xs : List (κ × MV)} {vs : List (κ × L2.V)} (r : FR K mg γ ι H xs vs) : xs.length = vs.length := by
  induction r with
  | nil => rfl
  | cons a b ih => rw [List.length_cons, List.length_cons, ih]
theorem FR.repl {κ : Type} [DecidableEq κ] {xs : List (κ × MV)} {vs : List (κ × L2.V)} (r : FR K mg γ ι H xs vs) (k : κ) {y : MV} {u : L2.V} (q : VR K mg γ ι H y u) :
    FR K mg γ ι H (xs.map fun kv => if kv.1 = k then (kv.1, y) else kv) (vs.map fun kv => if kv.1 = k then (kv.1, u) else kv) := by
  induction r with
  | nil => exact .nil
  | @cons j x v xs vs a b ih =>
    rw [List.map_cons, List.map_cons]
    dsimp only
    by_cases h : j = k
    · rw [if_pos h, if_pos h]; exact .cons q ih
    · rw [if_neg h, if_neg h]; exact .cons a ih
theorem FR.snoc {κ : Type} {xs : List (κ × MV)} {vs : List (κ × L2.V)} (r : FR K mg γ ι H xs vs) (k : κ) {y : MV} {u : L2.V} (q : VR K mg γ ι H y u) : FR K mg γ ι H (xs ++ [(k, y)]) (vs ++ [(k, u)]) := by
  induction r with
  | nil => exact .cons q .nil
  | cons a b ih => exact .cons a ih
theorem FR.put {κ : Type} [DecidableEq κ] {xs : List (κ × MV)} {vs : List (κ × L2.V)} (r : FR K mg γ ι H xs vs) (k : κ) {y : MV} {u : L2.V} (q : VR K mg γ ι H y u) : FR K mg γ ι H (putM xs k y) (putK vs k u) := by
  unfold putM putK
  rw [valV_any]
  rcases r.val k with ⟨e1, e2⟩ | ⟨x, v, e1, e2, _⟩
  · rw [e1, e2]; exact r.snoc k q
  · rw [e1, e2]; exact r.repl k q
theorem FR.drop {κ : Type} [DecidableEq κ] {xs : List (κ × MV)} {vs : List (κ × L2.V)} (r : FR K mg γ ι H xs vs) (k : κ) : FR K mg γ ι H (dropM xs k) (dropK vs k) := by
  unfold dropM dropK
  induction r with
  | nil => exact .nil
  | @cons j x v xs vs a b ih =>
    rw [List.filter_cons, List.filter_cons]
    dsimp only
    by_cases h : j = k
    · rw [decide_eq_false (fun z => z h)]; exact ih
    · rw [decide_eq_true h]; exact .cons a ih
theorem FR.getp {κ : Type} {xs : List (κ × MV)} {vs : List (κ × L2.V)} (r : FR K mg γ ι H xs vs) : ∀ {i : Nat} {k : κ} {x : MV}, xs[i]? = some (k, x) → ∃ v, vs[i]? = some (k, v) ∧ VR K mg γ ι H x v := by
  induction r with
  | nil => intro i k x e; simp at e
  | cons a b ih =>
    intro i k x e
    cases i with
    | zero => simp at e; obtain ⟨rfl, rfl⟩ := e; exact ⟨_, rfl, a⟩
    | succ i => simpa using ih (i := i) (by simpa using e)
theorem NR.val {kvs : List (NestedKey × MV)} {xs : List (NestedKey × Addr × Value)} (r : NR K mg γ ι H kvs xs) (k : NestedKey) : (lookM kvs k = none ∧ atKey xs k = none) ∨ ∃ y p u v, lookM kvs k = some y ∧ atKey xs k = some (p, u) ∧ RelV v u ∧ VR K mg γ ι H y v := by
  induction r with
  | nil => exact .inl ⟨rfl, rfl⟩
  | @cons y v u j p kvs xs a b c d e ih =>
    rw [lookM_cons]
    by_cases h : j = k
    · rw [if_pos h]
      exact .inr ⟨y, p, u, v, rfl, by simp [atKey, List.find?_cons, h], d, c⟩
    · rw [if_neg h]
      have : atKey ((j, p, u) :: xs) k = atKey xs k := by simp [atKey, List.find?_cons, h]
      rw [this]; exact ih
end
section
variable {X : Cx} {pins : List (Addr × Obj)} {σ : L2.St} {H : Hp} {s : Shared} {γ ι : List Addr}
mutual
/-- a tuple of ints, as it stands, is the key -/
theorem nested_is (I : L2.Inv X pins σ H s) : ∀ (k : NestedKey) {V : L2.V} {u : Value}, VR X.K X.mg γ ι H (mvOf k) V → RelV V u → NestedIs s.heap k u
  | .none, _, _, r, q => by
    unfold mvOf at r; cases r
    have : _ = Value.none := q
    subst this; exact .none
  | .num i, _, _, r, q => by
    unfold mvOf at r; cases r
    obtain ⟨t, rfl⟩ := q
    exact .int i t
  | .text x, _, _, r, q => by
    unfold mvOf at r; cases r
    obtain ⟨t, rfl⟩ := q
    exact .text x t
  | .tup ks, _, _, r, q => by
    unfold mvOf at r
    obtain ⟨a, vs, rfl, sa, ra⟩ := r.tupS
    have : _ = Value.ref a := q
    subst this
    obtain ⟨its, rv, ⟨o, h1, h2, n, h3⟩, _⟩ := I.tuple sa
    exact .tup h1 h2 h3 (nested_are I ks ra rv)
theorem nested_are (I : L2.Inv X pins σ H s) : ∀ (ks : List NestedKey) {vs : List L2.V} {us : List Value}, VRs X.K X.mg γ ι H (mvsOf ks) vs → Vals vs us → NestedAll s.heap ks us
  | [], _, _, r, q => by
    unfold mvsOf at r; cases r; cases q; exact .nil
  | k :: ks, _, _, r, q => by
    unfold mvsOf at r
    cases r with
    | cons a b =>
      cases q with
      | cons c d => exact .cons (nested_is I k a c) (nested_are I ks b d)
end
theorem NR.is (I : L2.Inv X pins σ H s) {kvs : List (NestedKey × MV)} {xs : List (NestedKey × Addr × Value)} (r : NR X.K X.mg γ ι H kvs xs) : ∀ x ∈ xs, (nestedKind X.prog X.w).is s.heap x.1 x.2.1 := by
  induction r with
  | nil => intro x hx; cases hx
  | cons a b c d e ih =>
    intro x hx
    rcases List.mem_cons.mp hx with rfl | hx
    · exact ⟨nested_is I _ b rfl, a⟩
    · exact ih x hx
theorem NR.at (I : L2.Inv X pins σ H s) {kvs : List (NestedKey × MV)} {xs : List (NestedKey × Addr × Value)} (r : NR X.K X.mg γ ι H kvs xs) {a : Addr} (e : Rd H a (.ext (DNP a xs))) : xs.length ≤ sizeLine ∧ (a == sysModules) = false ∧ s.heap.DictOfH (nestedKind X.prog X.w) a xs := by
  obtain ⟨h1, h2, h3, o, es, ep, h4, h5, h6, h7⟩ : DNP a xs s.heap := (e.ok I.hok).1
  exact ⟨h1, h2, o, es, ep, h4, h5, h6, h7 X.w, r.is I, h3⟩
end

/-! ### x in y -/
/-- scalars, as values -/
def toV : MV → Option L2.V
  | .non => some .non
  | .bl b => some (.bl b)
  | .int i => some (.int i)
  | .str x => some (.str x)
  | _ => none
def toVs : List MV → Option (List L2.V)
  | [] => some []
  | x :: xs => (toV x).bind fun v => (toVs xs).map (v :: ·)
theorem toV_ok {K mg γ ι H} {x : MV} {V v : L2.V} (r : VR K mg γ ι H x V) (e : toV x = some v) : V = v ∧ flatV v = true := by
  cases r <;> cases e <;> exact ⟨rfl, rfl⟩
theorem toVs_ok {K mg γ ι H} : ∀ {xs : List MV} {Vs vs : List L2.V}, VRs K mg γ ι H xs Vs → toVs xs = some vs → Vs = vs ∧ vs.all flatV = true
  | _, _, _, .nil, e => by cases e; exact ⟨rfl, rfl⟩
  | _, _, _, .cons a b, e => by
    unfold toVs at e
    obtain ⟨v, e1, e2⟩ := Option.bind_eq_some_iff.mp e
    obtain ⟨vs, e3, rfl⟩ := Option.map_eq_some_iff.mp e2
    obtain ⟨rfl, h1⟩ := toV_ok a e1
    obtain ⟨rfl, h2⟩ := toVs_ok b e3
    exact ⟨rfl, by rw [List.all_cons, h1, h2]; rfl⟩
/-- a tuple of ints as a key -/
def keyT (x : MV) : Option NestedKey := match x with
  | .tup xs => (keyOf (.tup xs)).bind fun k => if k.depth ≤ 8 then some k else none
  | _ => none
theorem keyT_ok {x : MV} {k : NestedKey} (e : keyT x = some k) : keyOf x = some k ∧ k.depth ≤ 8 ∧ ∃ xs, x = .tup xs := by
  unfold keyT at e
  split at e
  · obtain ⟨k', e1, e2⟩ := Option.bind_eq_some_iff.mp e
    split at e2
    · cases e2; exact ⟨e1, ‹_›, _, rfl⟩
    · cases e2
  · cases e
theorem VR.refT {K mg γ ι H} {xs : List MV} {V : L2.V} (r : VR K mg γ ι H (.tup xs) V) : ∃ p, V = .ref p := by
  cases r; exact ⟨_, rfl⟩
/-- what a dict holds at a key: not a dict or not a key; nothing; a value -/
def dgetM (h : MH) (x y : MV) : Option (Option MV) := match x with
  | .ref n => match h[n]? with
    | some (.dK kvs) => (keyM y).map (lookM kvs)
    | some (.frz (.dK kvs)) => (keyM y).map (lookM kvs)
    | some (.dN kvs) => (keyT y).map (lookM kvs)
    | some (.frz (.dN kvs)) => (keyT y).map (lookM kvs)
    | _ => none
  | _ => none
def inList (h : MH) (x : MV) (ys : List MV) (isl : Bool) : Option Bool := match toV x, toVs ys with
  | some v, some vs => some (inV v vs)
  | _, _ => if isl then (match toD x, toDs ys with
    | some d, some ds => if SeqAt.shaped d = true ∧ SeqAt.shaped (.list ds) = true then some (ds.any fun z => PyData.eqv z d) else none
    | _, _ => none) else none
def inB (h : MH) (x y : MV) : Option Bool := match y with
  | .str z => match x with
    | .str i => some (!(Builtin.Str.occurrences z i 0 z.length 1).isEmpty)
    | _ => none
  | .tup ys => inList h x ys false
  | y => match lsOf h y with
    | some ys => inList h x ys true
    | none => (dgetM h y x).map (·.isSome)
def inO : MOp := fun x y h => match inB h x y with
  | some b => .ok (.bl b) h
  | none => .stuck
def ninO : MOp := fun x y h => match inB h x y with
  | some b => .ok (.bl (!b)) h
  | none => .stuck
theorem nx_in (x y h) : NoX (inO x y h) := by unfold inO; split; exact nx_ok; exact nx_stuck
theorem nx_nin (x y h) : NoX (ninO x y h) := by unfold ninO; split; exact nx_ok; exact nx_stuck
section
variable {X : Cx}
/-- by values: what `in` may be asked -/
def InV (X : Cx) (V1 V2 : L2.V) (H : Hp) (b : Bool) : Prop :=
  (∃ i j, V1 = .str i ∧ V2 = .str j ∧ b = !(Builtin.Str.occurrences j i 0 j.length 1).isEmpty) ∨
  (∃ p xs, V2 = .ref p ∧ (SqL X.K H p xs ∨ SqT X.K H p xs) ∧ flatV V1 = true ∧ xs.all flatV = true ∧ b = inV V1 xs) ∨
  (∃ d ds, Dp X.K H V1 d ∧ Dp X.K H V2 (.list ds) ∧ SeqAt.shaped d = true ∧ SeqAt.shaped (.list ds) = true ∧ b = ds.any fun z => PyData.eqv z d) ∨
  (∃ a o, V2 = .ref a ∧ DGet H a V1 o ∧ b = o.isSome) ∨
  (∃ γ ι a kvs xs x k, V2 = .ref a ∧ Rd H a (.ext (DNP a xs)) ∧ NR X.K X.mg γ ι H kvs xs ∧ keyOf x = some k ∧ k.depth ≤ 8 ∧ (∃ p, V1 = .ref p) ∧ VR X.K X.mg γ ι H x V1 ∧ b = (lookM kvs k).isSome)
theorem inB_ok {γ ι : List Addr} {H : Hp} {h : MH} {x y : MV} {V1 V2 : L2.V} {b : Bool} (s : SimH X.K X.mg γ ι H h) (r1 : VR X.K X.mg γ ι H x V1) (r2 : VR X.K X.mg γ ι H y V2) (e : inB h x y = some b) : InV X V1 V2 H b := by
  have lst : ∀ {ys : List MV} {isl : Bool} {p : Addr} {vs : List L2.V}, inList h x ys isl = some b → (SqL X.K H p vs ∨ (isl = false ∧ SqT X.K H p vs)) → VRs X.K X.mg γ ι H ys vs → V2 = .ref p → InV X V1 V2 H b := by
    intro ys isl p vs e hs ra ev
    unfold inList at e
    split at e
    · rename_i v ws e1 e2
      cases e
      obtain ⟨rfl, f1⟩ := toV_ok r1 e1
      obtain ⟨rfl, f2⟩ := toVs_ok ra e2
      exact .inr (.inl ⟨p, _, ev, hs.imp id And.right, f1, f2, rfl⟩)
    · split at e
      · rename_i hb
        rcases hs with hs | ⟨hf, _⟩
        · split at e
          · rename_i d ds e1 e2
            split at e
            · rename_i hsh
              cases e
              exact .inr (.inr (.inl ⟨d, ds, toD_ok r1 e1, by rw [ev]; exact .lst hs (toDs_ok ra e2), hsh.1, hsh.2, rfl⟩))
            · cases e
          · cases e
        · rw [hf] at hb; cases hb
      · cases e
  unfold inB at e
  split at e
  · split at e
    · cases e; cases r1; cases r2; exact .inl ⟨_, _, rfl, rfl, rfl⟩
    · cases e
  · obtain ⟨a, vs, rfl, sa, ra⟩ := r2.tupS
    exact lst e (.inr ⟨rfl, sa⟩) ra rfl
  · split at e
    · rename_i ys e1
      obtain ⟨a, vs, rfl, sa, _, ra⟩ := s.ls r2 e1
      exact lst e (.inl sa) ra rfl
    · obtain ⟨o, e1, rfl⟩ := Option.map_eq_some_iff.mp e
      unfold dgetM at e1
      split at e1
      · rename_i n
        cases r2 with
        | @ref _ a ea =>
        split at e1
        · rename_i kvs q
          obtain ⟨w, hw, c⟩ := s.cell q ea
          obtain ⟨k, e2, rfl⟩ := Option.map_eq_some_iff.mp e1
          cases c with
          | dK fr =>
            refine .inr (.inr (.inr (.inl ⟨a, _, rfl, .inl ⟨_, k, .inl hw, r1.key e2, rfl⟩, ?_⟩)))
            rcases fr.val k with ⟨h1, h2⟩ | ⟨y, v, h1, h2, _⟩ <;> rw [h1, h2] <;> rfl
        · rename_i kvs q
          obtain ⟨w, hw, c⟩ := s.cell q ea
          obtain ⟨k, e2, rfl⟩ := Option.map_eq_some_iff.mp e1
          cases c with
          | frz c =>
            cases c with
            | dK fr =>
              refine .inr (.inr (.inr (.inl ⟨a, _, rfl, .inl ⟨_, k, .inr ⟨_, hw⟩, r1.key e2, rfl⟩, ?_⟩)))
              rcases fr.val k with ⟨h1, h2⟩ | ⟨y, v, h1, h2, _⟩ <;> rw [h1, h2] <;> rfl
        · rename_i kvs q
          obtain ⟨w, hw, c⟩ := s.cell q ea
          obtain ⟨k, e2, rfl⟩ := Option.map_eq_some_iff.mp e1
          obtain ⟨k1, k2, _, rfl⟩ := keyT_ok e2
          cases c with
          | dN nr => exact .inr (.inr (.inr (.inr ⟨γ, ι, a, kvs, _, _, k, rfl, .inl hw, nr, k1, k2, r1.refT, r1, rfl⟩)))
        · rename_i kvs q
          obtain ⟨w, hw, c⟩ := s.cell q ea
          obtain ⟨k, e2, rfl⟩ := Option.map_eq_some_iff.mp e1
          obtain ⟨k1, k2, _, rfl⟩ := keyT_ok e2
          cases c with
          | frz c =>
            cases c with
            | dN nr => exact .inr (.inr (.inr (.inr ⟨γ, ι, a, kvs, _, _, k, rfl, .inr ⟨_, hw⟩, nr, k1, k2, r1.refT, r1, rfl⟩)))
        · cases e1
      · cases e1
theorem op_inM (hu : X.A.units + 100 < cLine) : OpR X (compareOp .In) (fun V1 V2 H Q => ∃ b, InV X V1 V2 H b ∧ Q (.bl b) H) := by
  rintro pins s σ H V1 V2 v u Q I r1 r2 ⟨b, h, q⟩
  rcases h with ⟨i, j, rfl, rfl, rfl⟩ | ⟨p, xs, rfl, h1, h2, h3, rfl⟩ | ⟨d, ds, h1, h2, h3, h4, rfl⟩ | ⟨a, o, rfl, h1, rfl⟩ | ⟨γ, ι, a, kvs, xs, x, k, rfl, h1, h2, h3, h4, ⟨p, rfl⟩, h5, rfl⟩
  · exact op_in_str pins s σ H _ _ v u Q I r1 r2 ⟨i, j, rfl, rfl, q⟩
  · exact op_in_seq pins s σ H _ _ v u Q I r1 r2 ⟨p, xs, rfl, h1, h2, h3, q⟩
  · exact op_inD (by omega) pins s σ H _ _ v u Q I r1 r2 ⟨d, ds, h1, h2, h3, h4, q⟩
  · have : u = Value.ref a := r2
    subst this
    exact d_in (by omega) I h1 r1 fun s' I' => ⟨.bl _, H, I', rfl, q⟩
  · have e1 : u = Value.ref a := r2
    have e2 : v = Value.ref p := r1
    subst e1 e2
    obtain ⟨g1, g2, g3⟩ := h2.at I h1
    refine wpAny_in_heap (knd := nestedKind X.prog X.w) (k := k) (show X.A.in1.units + 8 < cLine by show X.A.units + 1 + 8 < cLine; omega) ⟨nested_is I k (by rw [mvOf_key x k h3]; exact h5) r1, h4⟩ g2 g3 ⟨.bl _, H, I.tok _, rfl, ?_⟩
    rcases h2.val k with ⟨e1, e2⟩ | ⟨y, p, u, v, e1, e2, _, _⟩
    · rw [e2]; rw [e1] at q; exact q
    · rw [e2]; rw [e1] at q; exact q
theorem op_ninM (hu : X.A.units + 100 < cLine) : OpR X (compareOp .NotIn) (fun V1 V2 H Q => ∃ b, InV X V1 V2 H b ∧ Q (.bl (!b)) H) := by
  rintro pins s σ H V1 V2 v u Q I r1 r2 ⟨b, h, q⟩
  rcases h with ⟨i, j, rfl, rfl, rfl⟩ | ⟨p, xs, rfl, h1, h2, h3, rfl⟩ | ⟨d, ds, h1, h2, h3, h4, rfl⟩ | ⟨a, o, rfl, h1, rfl⟩ | ⟨γ, ι, a, kvs, xs, x, k, rfl, h1, h2, h3, h4, ⟨p, rfl⟩, h5, rfl⟩
  · exact op_notIn_str pins s σ H _ _ v u Q I r1 r2 ⟨i, j, rfl, rfl, q⟩
  · exact op_notIn_seq pins s σ H _ _ v u Q I r1 r2 ⟨p, xs, rfl, h1, h2, h3, q⟩
  · exact op_notInD (by omega) pins s σ H _ _ v u Q I r1 r2 ⟨d, ds, h1, h2, h3, h4, q⟩
  · have : u = Value.ref a := r2
    subst this
    exact d_notIn (by omega) I h1 r1 fun s' I' => ⟨.bl _, H, I', rfl, q⟩
  · have e1 : u = Value.ref a := r2
    have e2 : v = Value.ref p := r1
    subst e1 e2
    obtain ⟨g1, g2, g3⟩ := h2.at I h1
    refine wpAny_notIn_heap (knd := nestedKind X.prog X.w) (k := k) (show X.A.in1.units + 8 < cLine by show X.A.units + 1 + 8 < cLine; omega) ⟨nested_is I k (by rw [mvOf_key x k h3]; exact h5) r1, h4⟩ g2 g3 ⟨.bl _, H, I.tok _, rfl, ?_⟩
    rcases h2.val k with ⟨e1, e2⟩ | ⟨y, p, u, v, e1, e2, _, _⟩
    · rw [e2]; rw [e1] at q; exact q
    · rw [e2]; rw [e1] at q; exact q
theorem om_in (hu : X.A.units + 100 < cLine) : OpM X (compareOp .In) inO := by
  rintro pins s σ H V1 V2 v u Q I r1 r2 ⟨γ, ι, h, x, y, sm, q1, q2, p⟩
  unfold inO at p
  split at p
  · rename_i b e
    exact op_inM hu pins s σ H _ _ v u Q I r1 r2 ⟨b, inB_ok sm q1 q2 e, p.ok ⟨sm, .bl _⟩⟩
  · exact p.elim
theorem om_nin (hu : X.A.units + 100 < cLine) : OpM X (compareOp .NotIn) ninO := by
  rintro pins s σ H V1 V2 v u Q I r1 r2 ⟨γ, ι, h, x, y, sm, q1, q2, p⟩
  unfold ninO at p
  split at p
  · rename_i b e
    exact op_ninM hu pins s σ H _ _ v u Q I r1 r2 ⟨b, inB_ok sm q1 q2 e, p.ok ⟨sm, .bl _⟩⟩
  · exact p.elim
theorem u100 {k : Nat} {A : Around} (r : Room k A) : A.units + 100 < cLine := by have := r.un; omega
end
end ML
namespace ML
open PySem PySem.Spec PyProof.Rows L2
/-! x is None, as a test -/
def isO : MOp := fun x y h => match y with
  | .non => .ok (.bl (isNO x)) h
  | _ => .stuck
def isnO : MOp := fun x y h => match y with
  | .non => .ok (.bl (!isNO x)) h
  | _ => .stuck
theorem nx_is (x y h) : NoX (isO x y h) := by unfold isO; split; exact nx_ok; exact nx_stuck
theorem nx_isn (x y h) : NoX (isnO x y h) := by unfold isnO; split; exact nx_ok; exact nx_stuck
theorem om_is {X : Cx} : OpM X (compareOp .Is) isO := by
  rintro pins s σ H V1 V2 v u Q I r1 r2 ⟨γ, ι, h, x, y, sm, q1, q2, p⟩
  unfold isO at p
  split at p
  · cases q2
    refine op_isN pins s σ H _ _ v u Q I r1 r2 ⟨rfl, ?_⟩
    rw [isN_ok q1]; exact p.ok ⟨sm, .bl _⟩
  · exact p.elim
theorem om_isn {X : Cx} : OpM X (compareOp .IsNot) isnO := by
  rintro pins s σ H V1 V2 v u Q I r1 r2 ⟨γ, ι, h, x, y, sm, q1, q2, p⟩
  unfold isnO at p
  split at p
  · cases q2
    refine op_notN pins s σ H _ _ v u Q I r1 r2 ⟨rfl, ?_⟩
    rw [isN_ok q1]; exact p.ok ⟨sm, .bl _⟩
  · exact p.elim
end ML

set_option maxRecDepth 100000
/-! ML16: weakest preconditions: exceptions, x in y. -/
namespace ML
open PySem PySem.Spec PyProof.Rows L2
section
variable {l : Loc} {h : MH} {N : Loc → MH → Prop} {P : Po} {E : PE'} {Q : MV → MH → Prop}
theorem wp_raise {c : Str} (q : P.E c [] l h) : okS (mRaise c l h) N P := ⟨q⟩
theorem wp_raise1 {c f : Str} {e : MEx} (o : okR (e l h) (fun v h1 => P.E c [(f, v)] l h1) fun c fs h => P.E c fs l h) : okS (mRaise1 c f e l h) N P := okR_toS (okR_mono o (fun _ _ q => ⟨q⟩) fun _ _ _ q => q)
theorem wp_try {b o : MSt} {ks : List Cl} (hb : okS (b l h) (fun l h => okS (o l h) N P) ⟨P.R, P.B, P.C, fun c fs l h => okS (hdl ks c fs l h) N P⟩) : okS (mTry b ks o l h) N P := by
  unfold mTry
  revert hb
  cases b l h with
  | nx l1 h1 => exact fun hb => hb.out
  | exn c fs l1 h1 => exact fun hb => hb.out
  | rt v h1 => exact fun hb => ⟨hb.out⟩
  | bk l1 h1 => exact fun hb => ⟨hb.out⟩
  | ct l1 h1 => exact fun hb => ⟨hb.out⟩
  | stuck => exact fun hb => hb.out.elim
/-- a suite lets nothing out -/
def noX (P : Po) : Po := ⟨P.R, P.B, P.C, fun _ _ _ _ => False⟩
theorem okS_noX {r : MS} (o : okS r N (noX P)) : okS r.noX N P := by
  cases r with
  | exn c fs l h => exact o.out.elim
  | _ => exact ⟨o.out⟩
theorem okS_gone {r : MS} {i : Nat} (o : okS r (fun l h => N (l.set i none) h) ⟨P.R, fun l h => P.B (l.set i none) h, fun l h => P.C (l.set i none) h, fun _ _ _ _ => False⟩) : okS (r.noX.gone i) N P := by
  cases r with
  | exn c fs l h => exact o.out.elim
  | _ => exact ⟨o.out⟩
theorem wp_hdl_y {c : Str} {fs : List (Str × MV)} {yes no : List Str} {su : MSt} {ks : List Cl} (hc : c ∈ yes) (o : okS (su l h) N (noX P)) : okS (hdl (⟨yes, no, none, su⟩ :: ks) c fs l h) N P := by
  unfold hdl; rw [if_pos hc]; exact okS_noX o
theorem wp_hdl_yn {c : Str} {fs : List (Str × MV)} {yes no : List Str} {su : MSt} {i : Nat} {ks : List Cl} (hc : c ∈ yes) (o : okS (su (l.set i (some (.ref h.length))) (h ++ [.exc c fs])) (fun l h => N (l.set i none) h) ⟨P.R, fun l h => P.B (l.set i none) h, fun l h => P.C (l.set i none) h, fun _ _ _ _ => False⟩) :
    okS (hdl (⟨yes, no, some i, su⟩ :: ks) c fs l h) N P := by
  unfold hdl; rw [if_pos hc]; exact okS_gone o
theorem wp_hdl_n {c : Str} {fs : List (Str × MV)} {yes no : List Str} {s : Option Nat} {su : MSt} {ks : List Cl} (hy : c ∉ yes) (hn : c ∈ no) (o : okS (hdl ks c fs l h) N P) : okS (hdl (⟨yes, no, s, su⟩ :: ks) c fs l h) N P := by
  unfold hdl; rw [if_neg hy, if_pos hn]; exact o
theorem wp_hdl_0 {c : Str} {fs : List (Str × MV)} (o : P.E c fs l h) : okS (hdl [] c fs l h) N P := ⟨o⟩
theorem wp_isO {x : MV} (q : Q (.bl (isNO x)) h) : okR (isO x .non h) Q E := ⟨q⟩
theorem wp_isnO {x : MV} (q : Q (.bl (!isNO x)) h) : okR (isnO x .non h) Q E := ⟨q⟩
theorem wp_in {x y : MV} {b : Bool} (e : inB h x y = some b) (q : Q (.bl b) h) : okR (inO x y h) Q E := by unfold inO; rw [e]; exact ⟨q⟩
theorem wp_nin {x y : MV} {b : Bool} (e : inB h x y = some b) (q : Q (.bl (!b)) h) : okR (ninO x y h) Q E := by unfold ninO; rw [e]; exact ⟨q⟩
theorem wp_isXn {yes no : List Str} (q : Q (.bl false) h) : okR (isX yes no .non h) Q E := ⟨q⟩
theorem wp_isXy {yes no : List Str} {n : Nat} {c : Str} {fs : List (Str × MV)} (e : h[n]? = some (.exc c fs)) (hc : c ∈ yes) (q : Q (.bl true) h) : okR (isX yes no (.ref n) h) Q E := by
  unfold isX; dsimp only; rw [e]; dsimp only; rw [if_pos hc]; exact ⟨q⟩
theorem wp_isXf {yes no : List Str} {n : Nat} {c : Str} {fs : List (Str × MV)} (e : h[n]? = some (.exc c fs)) (hy : c ∉ yes) (hc : c ∈ no) (q : Q (.bl false) h) : okR (isX yes no (.ref n) h) Q E := by
  unfold isX; dsimp only; rw [e]; dsimp only; rw [if_neg hy, if_pos hc]; exact ⟨q⟩
theorem wp_isX {yes no : List Str} {a : MEx} (o : okR (a l h) (fun v h1 => okR (isX yes no v h1) Q E) E) : okR (mIsX yes no a l h) Q E := okR_bind o
theorem wp_fldX {f : Str} {cs : List Str} {a : MEx} (o : okR (a l h) (fun v h1 => ∃ n c fs x, v = .ref n ∧ h1[n]? = some (.exc c fs) ∧ c ∈ cs ∧ fs.lookup f = some x ∧ Q x h1) E) : okR (mFldX f cs a l h) Q E := by
  refine okR_bind (okR_mono o ?_ fun _ _ _ q => q)
  rintro v h1 ⟨n, c, fs, x, rfl, e, hc, e2, q⟩
  dsimp only; rw [e]; dsimp only; rw [if_pos hc, e2]; exact ⟨q⟩
end
@[simp] theorem toVs_ints {β : Type} (f : β → Int) : ∀ xs : List β, toVs (xs.map fun x => MV.int (f x)) = some (xs.map fun x => L2.V.int (f x))
  | [] => rfl
  | x :: xs => by rw [List.map_cons]; unfold toVs; rw [toVs_ints f xs]; rfl
theorem inV_ints (x : Int) : ∀ xs : List Int, inV (.int x) (xs.map L2.V.int) = decide (x ∈ xs)
  | [] => rfl
  | y :: ys => by
    rw [List.map_cons]
    unfold inV
    rw [List.any_cons]
    have ih := inV_ints x ys
    unfold inV at ih
    rw [ih]
    show ((y == x) || _) = _
    by_cases h : y = x
    · subst h; simp
    · have h' : ¬ x = y := fun z => h z.symm
      simp [h, h', beq_iff_eq]
theorem inB_int2 {h : MH} {x a b : Int} : inB h (.int x) (.tup [.int a, .int b]) = some (decide (x = a ∨ x = b)) := by
  have e : inList h (.int x) [.int a, .int b] false = some (inV (.int x) ([a, b].map L2.V.int)) := rfl
  show inList h (.int x) [.int a, .int b] false = _
  rw [e, inV_ints]
  simp
theorem inB_intT {h : MH} {x : Int} {xs : List Int} : inB h (.int x) (.tup (xs.map .int)) = some (decide (x ∈ xs)) := by
  show inList h _ _ false = _
  unfold inList
  rw [show toVs (xs.map MV.int) = some (xs.map L2.V.int) from toVs_ints id xs]
  show some (inV (.int x) _) = _
  rw [inV_ints]
theorem inB_intF {h : MH} {x : Int} {xs : List Int} : inB h (.int x) (.fl (xs.map .int)) = some (decide (x ∈ xs)) := by
  show inList h _ _ true = _
  unfold inList
  rw [show toVs (xs.map MV.int) = some (xs.map L2.V.int) from toVs_ints id xs]
  show some (inV (.int x) _) = _
  rw [inV_ints]
end ML
namespace ML
open PySem PySem.Spec PyProof.Rows L2
theorem isNO_non : isNO .non = true := rfl
theorem isNO_int (i : Int) : isNO (.int i) = false := rfl
theorem isNO_bl (i : Bool) : isNO (.bl i) = false := rfl
theorem isNO_str (i : Str) : isNO (.str i) = false := rfl
theorem isNO_ref (i : Nat) : isNO (.ref i) = false := rfl
theorem isNO_tup (i : List MV) : isNO (.tup i) = false := rfl
theorem isNO_fl (i : List MV) : isNO (.fl i) = false := rfl
end ML
namespace ML
open PySem PySem.Spec PyProof.Rows L2
theorem asgT {t : Tg} {v : MV} {l l' : Loc} {h : MH} {N : Loc → MH → Prop} (e : t.set v l = some l') (q : N l' h) : ∃ l', t.set v l = some l' ∧ N l' h := ⟨l', e, q⟩
end ML

set_option maxRecDepth 100000
/-! ML17: a, b = a list's cell. -/
namespace ML
open PySem PySem.Spec PyProof.Rows L2
/-- a, b = e, for e a list's cell -/
def mAsgL (is : List Nat) (e : MEx) : MSt := fun l h => (e l h).toS l fun v h1 => match v with
  | .ref n => match h1[n]? with
    | some (.lst xs) => if xs.length = is.length then .nx (setAll is xs l) h1 else .stuck
    | _ => .stuck
  | _ => .stuck
section
variable {X : Cx} {W : WX} {pos : Pos}
theorem ms_asgL {es : List Expr} {e : Expr} {k : Nat} {is : List Nat} {m : MEx} {p2 : Pos} (he : ME X W e m) (hc : X.calm = true) (hg : MGs X es is) (hn : (assignEach es X.env).length = is.length := by rfl) (hst : (assignEach es X.env).findIdx? (·.1) = none := by rfl)
    (hs : swapsWithSole [.Tuple es k p2] e pos.line X.env = pure false := by rfl) (hw : swappedStores [.Tuple es k p2] e X.env = pure none := by rfl)
    (h1 : (assignEach [.Tuple es k p2] X.env).map (·.2) = [assign (.Tuple es k p2) X.env] := by rfl) : MSj X W (.Assign [.Tuple es k p2] e pos) (mAsgL is m) :=
  psW (ps_asg he (pg_lst hc hg hn hst) hs hw h1) fun D σ H ⟨γ, ι, l, h, s, lr, p⟩ => ⟨γ, ι, l, h, s, lr, PostS.run (rel := rV X) s lr p fun ι1 v h1 b H1 e1 lr1 ⟨s1, r1⟩ p1 => by
    cases v with
    | ref n =>
      dsimp only at p1
      cases q : h1[n]? with
      | none => rw [q] at p1; exact p1.elim
      | some o =>
        rw [q] at p1
        cases o with
        | lst xs =>
          dsimp only at p1
          by_cases hl : xs.length = is.length
          · rw [if_pos hl] at p1
            cases r1 with
            | ref ea =>
              obtain ⟨vs, hvs, rvs⟩ := s1.listR (.inl q) ea
              exact ⟨_, vs, rfl, .inl hvs, by rw [← rvs.length]; exact hl, γ, ι1, l, xs, lr1, rvs, hl, fun σ' lr' _ _ => p1 ι1 σ' H1 (.refl _ _) s1 lr'⟩
          · rw [if_neg hl] at p1; exact p1.elim
        | _ => exact p1.elim
    | _ => exact p1.elim⟩
end
section
variable {l : Loc} {h : MH} {N : Loc → MH → Prop} {P : Po} {E : PE'} {Q : MV → MH → Prop}
theorem wp_asgL {is : List Nat} {e : MEx} (o : okR (e l h) (fun v h1 => ∃ n xs, v = .ref n ∧ h1[n]? = some (.lst xs) ∧ xs.length = is.length ∧ N (setAll is xs l) h1) fun c fs h => P.E c fs l h) : okS (mAsgL is e l h) N P := by
  refine okR_toS (okR_mono o ?_ fun _ _ _ q => q)
  rintro a h1 ⟨n, xs, rfl, e1, e2, q⟩
  dsimp only
  rw [e1]; dsimp only
  rw [if_pos e2]; exact ⟨q⟩
theorem forGo_cons {t : Tg} {body : MSt} {x : MV} {xs : List MV} {l' : Loc} (e : t.set x l = some l') (o : okS (body l' h) (fun l h => okS (forGo t body xs l h) N P) { P with B := N, C := fun l h => okS (forGo t body xs l h) N P }) : okS (forGo t body (x :: xs) l h) N P := by
  unfold forGo
  rw [e]
  dsimp only
  revert o
  cases body l' h with
  | nx l1 h1 => exact fun o => o.out
  | exn c fs l1 h1 => exact fun o => ⟨o.out⟩
  | rt v h1 => exact fun o => ⟨o.out⟩
  | bk l1 h1 => exact fun o => ⟨o.out⟩
  | ct l1 h1 => exact fun o => o.out
  | stuck => exact fun o => o.out.elim
theorem forGo_nil {t : Tg} {body : MSt} (q : N l h) : okS (forGo t body [] l h) N P := ⟨q⟩
end
end ML

set_option maxRecDepth 100000
set_option maxHeartbeats 2000000
namespace ML
open PySem PySem.Spec PyProof.Rows L2
section
variable {prog : Program} {w : World} {A : Around} {E : Value → Shared → Prop} {s : Shared}
theorem ext_str {R : Result → Shared → Prop} (hh : A.handled = none) (x : Str) (t : Tok) (S : Addr) (res : Value) (k : Nat) (hS : s.heap.get? S = some { cls := .type "list", data := .seq #[] k })
    (hR : ∀ s' acc' c', (∀ b o, b ≠ S → s.heap.get? b = some o → s'.heap.get? b = some o) → s'.gens = s.gens → s'.drawn = s.drawn → s'.os = s.os → s'.heap.get? S = some { cls := .type "list", dict := none, data := .seq acc' c', slots := #[] } → ItemsOf (SignAt x) acc' x.cps.size → R (.ok (.ret res)) s') (hn : x.cps.size ≤ sizeLine) :
    wpAny (model prog w) A.in1 (Builtin.List.listExtendWith (.ref S) (.str x t) res)
      (fun fin s' => match fin with | .done f => R (.ok f) s' | .again c' => c'.quiet = true ∧ codeAny (model prog w) A c' R s') (fun e s' => R (.error e) s') s := by
  have ne : S ≠ s.heap.objs.size := Nat.ne_of_lt (Heap.lt_size hS)
  unfold Builtin.List.listExtendWith
  refine wpAny_bind (wpAny_typeOf (T := "str") (v := .str x t) rfl ?_)
  have z1 : Builtin.List.listSameRef (.ref S) (.str x t) = false := rfl
  have z2 : (Value.type "str" == Value.type "list") = false := by decide
  have z3 : (Value.type "str" == Value.type "tuple") = false := by decide
  simp only [z1, z2, z3, Bool.or_false, Bool.false_eq_true, if_false]
  refine wpAny_bind (wpAny_pyIter_str fun ob St W hst => ?_)
  refine wpAny_bind (wpAny_holding ?_)
  unfold Builtin.List.listLengthHint
  refine wpAny_bind (wpAny_specialOf (T := "str") (v := .str x t) rfl F.str_len ?_)
  wp_delta
  refine wpAny_bind (wpAny_isInstance (T := "str") (v := .str x t) (b := true) rfl (by rw [isSubtype_type]; kernel_rfl) ?_)
  refine wpAny_bind (wpAny_typeOf (T := "str") (v := .str x t) rfl ?_)
  refine wpAny_pure ?_
  rw [if_neg (by decide)]
  have apart : S ∉ [s.heap.objs.size] := fun hm => ne (List.mem_singleton.mp hm)
  have hS2 : (s.heap.push ob).get? S = some { cls := .type "list", data := .seq #[] k } := Heap.get?_push_of_some _ hS
  refine wpAny_pure ⟨plainId_quiet F.plain_extend_loop _, codeAny_extend_loopS (W A.in1 hh).toS hn _ apart _ x.cps.size 0 _ _ _ rfl (Nat.zero_le _) hst hS2 (ItemsOf.nil _) fun s' acc' c' hm e2 e3 => ?_⟩
  refine hR s' acc' c' (fun b o hb e => hm.heap b o (fun hb2 => ?_) (Heap.get?_push_of_some _ e)) hm.gens hm.drawn hm.os e2 e3
  rcases List.mem_cons.mp hb2 with h | h
  · exact hb h
  · have hlt := Heap.lt_size e
    rw [List.mem_singleton.mp h] at hlt; exact absurd hlt (Nat.lt_irrefl _)
theorem init_str {R : Result → Shared → Prop} (hh : A.handled = none) (x : Str) (t : Tok) (S : Addr) (hS : s.heap.get? S = some { cls := .type "list", data := .seq #[] })
    (hR : ∀ s' acc' c', (∀ b o, b ≠ S → s.heap.get? b = some o → s'.heap.get? b = some o) → s'.gens = s.gens → s'.drawn = s.drawn → s'.os = s.os → s'.heap.get? S = some { cls := .type "list", dict := none, data := .seq acc' c', slots := #[] } → ItemsOf (SignAt x) acc' x.cps.size → R (.ok (.ret .none)) s') (hn : x.cps.size ≤ sizeLine) :
    wpAny (model prog w) A.in1 (Builtin.«list.__init__» ⟨[.ref S, .str x t], []⟩)
      (fun fin s' => match fin with | .done f => R (.ok f) s' | .again c' => c'.quiet = true ∧ codeAny (model prog w) A c' R s') (fun e s' => R (.error e) s') s := by
  show wpAny _ _ (do let old ← Builtin.List.listItems (.ref S); Builtin.List.listUpdate (.ref S) (fun _ => #[]); letGo old.toList.reverse; Builtin.List.listExtendWith (.ref S) (.str x t) .none) _ _ s
  refine wpAny_bind ?_; unfold Builtin.List.listItems; refine wpAny_bind (wpAny_seqItems hS rfl (wpAny_pure ?_))
  show wpAny _ _ (updateSeq S (fun _ => #[]) >>= fun _ => letGo (#[] : Array Value).toList.reverse >>= fun _ => Builtin.List.listExtendWith (.ref S) (.str x t) .none) _ _ s
  refine wpAny_bind (wpAny_updateSeq hS rfl ?_)
  have g2 := Heap.get?_update_self (Obj.mapSeq (fun _ => (#[] : Array Value))) hS rfl
  have others : ∀ b o, b ≠ S → s.heap.get? b = some o → (s.heap.update S (Obj.mapSeq (fun _ => (#[] : Array Value)))).get? b = some o := fun b o hb e => (Heap.get?_update_other _ _ (Ne.symm hb)).trans e
  refine wpAny_bind (wpAny_letGo ?_)
  refine ext_str hh x t S .none _ g2 (fun s' acc' c' hk g d o e ha => hR s' acc' c' (fun b ob hb e => hk b ob hb (others b ob hb e)) g d o e ha) hn
theorem new_str {Q : Value → Shared → Prop} (hh : A.handled = none) (x : Str) (t : Tok) (hn : x.cps.size ≤ sizeLine)
    (hQ : ∀ s' acc' c', (∀ b o, s.heap.get? b = some o → s'.heap.get? b = some o) → s'.gens = s.gens → s'.drawn = s.drawn → s'.os = s.os → s'.heap.get? s.heap.objs.size = some { cls := .type "list", dict := none, data := .seq acc' c', slots := #[] } → ItemsOf (SignAt x) acc' x.cps.size → Q (.ref s.heap.objs.size) s') :
    wpAny (model prog w) A (call (.type "list") [.str x t]) Q E s := by
  refine callType_codes (Q₁ := fun ob s1 => ob = .ref s.heap.objs.size ∧ s1 = { s with heap := s.heap.push { cls := .type "list", data := .seq #[] } }) F.called_list (F.typeCall_list_1 _) F.entry_list_init (code_list_new _ ⟨rfl, rfl⟩) fun ob s1 q => ?_
  obtain ⟨rfl, rfl⟩ := q
  have g : (s.heap.push { cls := .type "list", data := .seq #[] }).get? s.heap.objs.size = some { cls := .type "list", data := .seq #[] } := Heap.get?_push_size _ rfl
  refine ⟨⟨_, g, rfl⟩, F.args_list_init_2 _ _, init_str (A := A.in1) hh x t _ g (fun s' acc' c' hk h1 h2 h3 e ha => ?_) hn⟩
  exact ⟨rfl, hQ s' acc' c' (fun b o e => hk b o (Nat.ne_of_lt (Heap.lt_size e)) (Heap.get?_push_of_some _ e)) h1 h2 h3 e ha⟩
end
section
variable {X : Cx}
/-- list(a text) -/
theorem call_listS (hc : X.calm = true) : CallR X (.type "list") (fun xs H Q => ∃ z : Str, xs = [.str z] ∧ z.length ≤ sizeLine ∧ ∀ l, H l = none → Q (.ref l) (upd H l (.lst (z.cps.toList.map fun c => V.str ⟨#[c]⟩)))) := by
  intro pins s σ H xs us Q I r h
  obtain ⟨z, rfl, hz, q⟩ := h
  obtain ⟨u, rfl, t, rfl⟩ := vals1 r
  refine new_str (I.ok.hd hc) z t hz fun s' acc' c' hk h1 h2 h3 e ha => ?_
  have es : s' = { s with heap := s'.heap, toks := s'.toks } := by
    cases s'; cases s; simp only at h1 h2 h3; subst h1 h2 h3; rfl
  generalize s'.heap = h' at hk e es
  generalize s'.toks = tk at es
  subst es
  have hl : (z.cps.toList.map fun c => V.str ⟨#[c]⟩).length ≤ sizeLine := by rw [List.length_map, Array.length_toList]; exact hz
  refine ⟨.ref s.heap.objs.size, upd H s.heap.objs.size (.lst (z.cps.toList.map fun c => V.str ⟨#[c]⟩)), I.laid hk (Nat.le_refl _) (show ObjOk X.prog X.w _ _ _ (.lst (z.cps.toList.map fun c => V.str ⟨#[c]⟩)) from ⟨hl, acc'.toList, c', ?_, by simpa using e⟩), rfl, q _ (I.hok.fresh (Nat.le_refl _))⟩
  refine vals_of_at (by rw [List.length_map, Array.length_toList, Array.length_toList, ha.1]) fun j x v e1 e2 => ?_
  obtain ⟨c, u, q1, rfl⟩ := ha.2 j v (by rw [← Array.getElem?_toList]; exact e2)
  rw [List.getElem?_map, Array.getElem?_toList, q1] at e1
  cases e1
  exact ⟨u, rfl⟩
end
end ML
namespace ML
open PySem PySem.Spec PyProof.Rows L2
section
variable {X : Cx} {W : WX} {pos : Pos}
/-- list(x), for a text, too -/
def lsaL (xs : List MV) (h : MH) : MR (List MV) := match xs with
  | [.str z] => if z.length ≤ LINE then .ok (strMVs z) h else .stuck
  | _ => lstL xs h
theorem strMVs_ok {K mg γ ι H} (z : Str) : VRs K mg γ ι H (strMVs z) (z.cps.toList.map fun c => V.str ⟨#[c]⟩) := by
  unfold strMVs
  generalize z.cps.toList = l
  induction l with
  | nil => exact .nil
  | cons a l ih => exact .cons (.str _) ih
theorem ml_listA {p : Pos} {e : Expr} {es : List Expr} {m : MLx} (hc : X.calm = true) (hm : X.mg "list" = none) (ha : MA X W (e :: es) m) (hg : Gl X "list" := by rfl)
    (he : starEach (e :: es) X.env = (false, eval e X.env) :: starEach es X.env := by rfl) (hpl : (backTo pos (starEach es X.env)).any (·.1) = false := by rfl) :
    MLs X W (.Call (.Name "list" p) (e :: es) [] pos) (mCL lsaL m) :=
  peW (pe_callTy (CallR.or call_list_of (call_listS hc)) hg hm (by decide +kernel) ha (by decide) (by decide) he hpl) fun σ H Q ⟨γ, ι, l, h, s, lr, p⟩ => ⟨γ, ι, l, h, s, lr, p.seq (rel := rVs X) fun ι1 xs h1 Vs H1 e1 ⟨s1, r1⟩ p1 => by
    unfold lsaL at p1
    split at p1
    · split at p1
      · rename_i hz
        obtain ⟨V, rfl, q1⟩ := r1.c1
        cases q1
        refine .inr ⟨_, rfl, line_le hz, fun l hl => ?_⟩
        obtain ⟨e, r⟩ := s1.layL hl (strMVs_ok _)
        exact p1.okE e r
      · exact p1.elim
    · unfold lstL at p1
      split at p1
      · obtain ⟨V, rfl, q1⟩ := r1.c1
        obtain ⟨a, vs, rfl, sa, ra⟩ := q1.tupS
        refine .inl ⟨a, vs, rfl, .inr sa, fun l hl => ?_⟩
        obtain ⟨e, r⟩ := s1.layL hl ra
        exact p1.okE e r
      · split at p1
        · rename_i e
          obtain ⟨V, rfl, q1⟩ := r1.c1
          obtain ⟨a, vs, rfl, sa, _, ra⟩ := s1.ls q1 e
          refine .inl ⟨a, vs, rfl, .inl sa, fun l hl => ?_⟩
          obtain ⟨e, r⟩ := s1.layL hl ra
          exact p1.okE e r
        · exact p1.elim
      · exact p1.elim⟩
/-! ### text methods -/
def isTxt (_ : MH) (x : MV) : Bool := match x with
  | .str _ => true
  | _ => false
theorem ty_txt {γ ι : List Addr} {H : Hp} {h : MH} {x : MV} {V : L2.V} (r : VR X.K X.mg γ ι H x V) (e : isTxt h x = true) : tyV X.K "str" V H := by
  cases x with
  | str z => cases r; rfl
  | _ => cases e
def upperM (x : MV) (h : MH) : MR MV := match x with
  | .str z => if z.length ≤ 5592405 then .ok (.str (Txt.upper z)) h else .stuck
  | _ => .stuck
theorem me_upper {a : Expr} {ma : MEx} {apos : Pos} (ha : ME X W a ma) (hbase : attributeBase a "upper" X.env (eval a X.env) = eval a X.env := by rfl) (hline : (apos.endLine == pos.line) = true := by rfl) :
    ME X W (.Call (.Attribute a "upper" apos) [] [] pos) (mM0 isTxt upperM ma) :=
  me_m0 PySem.F.plainAttrs_str PySem.F.slot_str_upper PySem.F.type_str_upper mt_upper (fun γ ι H h x V s r c => ty_txt r c) (fun W σ γ ι H h x V Q s r p => by
    unfold upperM at p
    split at p
    · split at p
      · rename_i hz
        cases r
        exact ⟨_, rfl, rfl, hz, p.ok ⟨s, .str _⟩⟩
      · exact p.elim
    · exact p.elim) ha hbase hline
/-! ### displays of dicts -/
def unp : List L2.V → List (L2.V × L2.V)
  | a :: b :: r => (a, b) :: unp r
  | _ => []
def MPs (X : Cx) (W : WX) (pos : Pos) (ks : List (Option Expr)) (vs : List Expr) (m : MLx) : Prop := ∃ trs, PPs X pos ks vs trs ∧ ∀ σ H R, TM X W (rVs X) m σ H (fun bs H' => R (unp bs) H') → tPairs trs σ H R
theorem mps_nil : MPs X W pos [] [] maNil := ⟨[], pps_nil, fun σ H R ⟨γ, ι, l, h, s, lr, p⟩ => p.ok ⟨s, .nil⟩⟩
theorem mps_cons {k v : Expr} {ks : List (Option Expr)} {vs : List Expr} {m1 m2 : MEx} {n : MLx} (h1 : ME X W k m1) (h2 : ME X W v m2) (hr : MPs X W pos ks vs n) : MPs X W pos (some k :: ks) (v :: vs) (maCons m1 (maCons m2 n)) := by
  obtain ⟨trs, pp, ht⟩ := hr
  refine ⟨(_, _) :: trs, pps_cons h1 h2 pp, fun σ H R ⟨γ, ι, l, h, s, lr, p⟩ => ⟨γ, ι, l, h, s, lr, p.seq fun ι1 x h1 b H1 e1 ⟨s1, r1⟩ p1 => ⟨γ, ι1, l, h1, s1, lr.mono (e1.grow s), ?_⟩⟩⟩
  have p1' : Post X W (rVs X) γ σ ((m2 l h1).bind fun y h2 => (n l h2).bind fun xs h3 => .ok (x :: y :: xs) h3) ι1 H1 fun bs H' => R (unp bs) H' := by
    have eq : ((maCons m2 n l h1).bind fun xs h2 => MR.ok (x :: xs) h2) = (m2 l h1).bind fun y h2 => (n l h2).bind fun xs h3 => .ok (x :: y :: xs) h3 := by
      unfold maCons
      cases m2 l h1 with
      | ok y h2 =>
        show ((n l h2).bind _).bind _ = (n l h2).bind _
        cases n l h2 <;> rfl
      | _ => rfl
    rw [← eq]; exact p1
  refine p1'.seq fun ι2 y h2 c H2 e2 ⟨s2, r2⟩ p2 => ht _ _ _ ⟨γ, ι2, l, h2, s2, (lr.mono (e1.grow s)).mono (e2.grow s1), p2.seq fun ι3 xs h3 bs H3 e3 ⟨s3, r3⟩ p3 => ?_⟩
  exact p3.ok (b := b :: c :: bs) ⟨s3, .cons ((r1.mono (e2.grow s1)).mono (e3.grow s2)) (.cons (r2.mono (e3.grow s2)) r3)⟩
/-- the pairs, by keys -/
def prK : List MV → Option (List (Key × MV))
  | x :: y :: r => match keyM x, prK r with
    | some k, some ps => some ((k, y) :: ps)
    | _, _ => none
  | [] => some []
  | _ => none
def mergeM (kvs more : List (Key × MV)) : List (Key × MV) := more.foldl (fun acc kv => putM acc kv.1 kv.2) kvs
/-- {k: v, ..} -/
def mDisp (m : MLx) : MEx := fun l h => (m l (h ++ [.dK []])).bind fun xs h1 => match h1[h.length]?, prK xs with
  | some (.dK []), some ps => if ps.length ≤ 15 then .ok (.ref h.length) (h1.set h.length (.dK (mergeM [] ps))) else .stuck
  | _, _ => .stuck
theorem prK_ok {K mg γ ι H} : ∀ {xs : List MV} {Vs : List L2.V} {ps : List (Key × MV)}, VRs K mg γ ι H xs Vs → prK xs = some ps → ∃ kvs : List (Key × L2.V), unp Vs = kvs.map (fun kv => (kV kv.1, kv.2)) ∧ FR K mg γ ι H ps kvs
  | [], _, _, .nil, e => by cases e; exact ⟨[], rfl, .nil⟩
  | [_], _, _, .cons a .nil, e => by cases e
  | x :: y :: r, _, _, .cons (v := v) a (.cons (v := u) b c), e => by
    unfold prK at e
    split at e
    · rename_i k ps e1 e2
      cases e
      obtain ⟨kvs, h1, h2⟩ := prK_ok c e2
      have := a.key e1
      subst this
      exact ⟨(k, u) :: kvs, by unfold unp; rw [h1]; rfl, .cons b h2⟩
    · cases e
theorem FR.merge {K mg γ ι H} : ∀ {more : List (Key × MV)} {ms : List (Key × L2.V)} {kvs : List (Key × MV)} {vs : List (Key × L2.V)}, FR K mg γ ι H more ms → FR K mg γ ι H kvs vs → FR K mg γ ι H (mergeM kvs more) (mergeK vs ms)
  | [], _, _, _, .nil, r => r
  | (k, x) :: more, _ :: ms, kvs, vs, .cons a b, r => show FR K mg γ ι H (mergeM (putM kvs k x) more) (mergeK (putK vs k _) ms) from FR.merge b (r.put k a)
theorem me_disp {ks : List (Option Expr)} {vs : List Expr} {m : MLx} (hp : MPs X W pos ks vs m) (hall : ks.all (·.isSome) = true := by rfl) (hl : ks.length = vs.length := by rfl) (h0 : ks ≠ [] := by simp) (h15 : ks.length ≤ 15 := by decide) : ME X W (.Dict ks vs pos) (mDisp m) := by
  obtain ⟨trs, pp, ht⟩ := hp
  refine peW (pe_disp pp hall hl h0 h15) fun σ H Q ⟨γ, ι, l, h, s, lr, p⟩ q hq => ?_
  obtain ⟨s1, e1, hl1⟩ := s.alloc (o := .dK []) (w := .dK []) hq (.dK .nil)
  have hlen : ι.length = h.length := s.1
  refine ht _ _ _ ⟨γ, _, l, _, s1, lr.mono (e1.grow s), (Post.mono p e1).seq fun ι2 xs h2 bs H2 e2 ⟨s2, r2⟩ p2 => ?_⟩
  split at p2
  · rename_i ps c1 c2
    split at p2
    · rename_i hz
      have ea := (e2.grow s1).get hl1
      obtain ⟨w, hw, c⟩ := s2.cell c1 ea
      cases c with
      | dK fr =>
        cases fr
        obtain ⟨kvs, h1, h2⟩ := prK_ok r2 c2
        have hzl : kvs.length ≤ 15 := by rw [← h2.length]; exact hz
        obtain ⟨s3, e3⟩ := s2.put (w := .dK (mergeK [] kvs)) ea (.dK (FR.merge h2 .nil))
        have e3 := e3 (fun o w z => by simp_all)
        exact ⟨hw, kvs, h1, hzl, p2.okE e3 ⟨s3, .ref ea⟩⟩
    · exact p2.elim
  · exact p2.elim
end
end ML
namespace ML
open PySem PySem.Spec PyProof.Rows L2
section
variable {X : Cx} {W : WX} {pos : Pos}
/-- a list behind a list, as a fresh one -/
def addLL (x y : MV) (h : MH) : MR (List MV) := match lsOf h x, lsOf h y with
  | some a, some b => if a.length + b.length ≤ LINE then .ok (a ++ b) h else .stuck
  | _, _ => .stuck
def mAddL (ma mb : MEx) : MLx := fun l h => (ma l h).bind fun x h1 => (mb l h1).bind fun y h2 => addLL x y h2
theorem ml_add {a b : Expr} {ma mb : MEx} (ha : ME X W a ma) (hb : ME X W b mb) : MLs X W (.BinOp a .Add b pos) (mAddL ma mb) :=
  peW (pe_op op_catL ha hb) fun σ H Q ⟨γ, ι, l, h, s, lr, p⟩ => ⟨γ, ι, l, h, s, lr, p.seq (rel := rV X) fun ι1 x h1 V1 H1 e1 ⟨s1, r1⟩ p1 => ⟨γ, ι1, l, h1, s1, lr.mono (e1.grow s), p1.seq (rel := rV X) fun ι2 y h2 V2 H2 e2 ⟨s2, r2⟩ p2 => by
    have r1' := r1.mono (e2.grow s1)
    unfold addLL at p2
    split at p2
    · rename_i a b q1 q2
      obtain ⟨i, vs, rfl, _, sa, ra⟩ := s2.ls r1' q1
      obtain ⟨j, ws, rfl, _, sb, rb⟩ := s2.ls r2 q2
      split at p2
      · rename_i hz
        refine ⟨i, j, vs, ws, rfl, rfl, sa, sb, line_le (by rw [← ra.length, ← rb.length]; exact hz), fun q hq => ?_⟩
        obtain ⟨e, r⟩ := s2.layL hq (ra.append rb)
        exact p2.okE e r
      · exact p2.elim
    · exact p2.elim⟩⟩
end
end ML

set_option maxRecDepth 100000
/-! ML19: weakest preconditions: texts, displays of dicts. -/
namespace ML
open PySem PySem.Spec PyProof.Rows L2
section
variable {l : Loc} {h : MH} {N : Loc → MH → Prop} {P : Po} {E : PE'} {Q : MV → MH → Prop} {QL : List MV → MH → Prop}
theorem wp_addS {a b : Str} (hl : a.length + b.length ≤ 16777216) (q : Q (.str (a ++ b)) h) : okR (addO (.str a) (.str b) h) Q E := by
  show okR (if _ then _ else _) Q E
  exact wp_ite_t hl ⟨q⟩
theorem wp_ixS {z : Str} {i : Int} {c : Nat} (hz : z.length ≤ 16777216) (e : atI z.cps.toList i = some c) (q : Q (.str ⟨#[c]⟩) h) : okR (ixO (.str z) (.int i) h) Q E := by
  show okR (if _ then _ else _) Q E
  rw [if_pos hz, e]; exact ⟨q⟩
theorem wp_slS {z : Str} {lo hi : Option Int} (hz : z.length ≤ 16777216) (q : Q (.str (cutS z lo hi)) h) : okR (slO (.str z) lo hi h) Q E := by
  show okR (if _ then _ else _) Q E
  exact wp_ite_t hz ⟨q⟩
theorem wp_lenS {z : Str} (hz : z.length ≤ 16777216) (q : Q (.int z.length) h) : okR (lenC [.str z] h) Q E := by
  show okR (if _ then _ else _) Q E
  exact wp_ite_t hz ⟨q⟩
theorem wp_cmpS {f g} {i j : Str} (q : Q (.bl (g i j)) h) : okR (cmpO f g (.str i) (.str j) h) Q E := ⟨q⟩
theorem wp_itS {z : Str} (q : QL (strMVs z) h) : okR (itO (.str z) h) QL E := ⟨q⟩
theorem wp_upper {z : Str} (hz : z.length ≤ 5592405) (q : Q (.str (Txt.upper z)) h) : okR (upperM (.str z) h) Q E := by
  show okR (if _ then _ else _) Q E
  exact wp_ite_t hz ⟨q⟩
theorem wp_lsaS {z : Str} (hz : z.length ≤ 16777216) (q : QL (strMVs z) h) : okR (lsaL [.str z] h) QL E := by
  show okR (if _ then _ else _) QL E
  exact wp_ite_t hz ⟨q⟩
theorem wp_lsaT {xs : List MV} (q : QL xs h) : okR (lsaL [.tup xs] h) QL E := ⟨q⟩
theorem wp_lsaF {xs : List MV} (q : QL xs h) : okR (lsaL [.fl xs] h) QL E := ⟨q⟩
theorem wp_disp {m : MLx} (o : okR (m l (h ++ [.dK []])) (fun xs h1 => ∃ ps, h1[h.length]? = some (.dK []) ∧ prK xs = some ps ∧ ps.length ≤ 15 ∧ Q (.ref h.length) (h1.set h.length (.dK (mergeM [] ps)))) E) : okR (mDisp m l h) Q E := by
  refine okR_bind (okR_mono o ?_ fun _ _ _ q => q)
  rintro xs h1 ⟨ps, e1, e2, e3, q⟩
  rw [e1, e2]
  exact wp_ite_t e3 ⟨q⟩
theorem wp_newD {o : MO} (q : Q (.ref h.length) (h ++ [o])) : okR (mNewD o l h) Q E := ⟨q⟩
theorem wp_AddL {ma mb : MEx} (o : okR (ma l h) (fun x h1 => okR (mb l h1) (fun y h2 => okR (addLL x y h2) QL E) E) E) : okR (mAddL ma mb l h) QL E := okR_bind (okR_mono o (fun _ _ q => okR_bind q) fun _ _ _ q => q)
theorem wp_addLRF {n : Nat} {xs ys : List MV} (e : h[n]? = some (.lst xs)) (hl : xs.length + ys.length ≤ 16777216) (q : QL (xs ++ ys) h) : okR (addLL (.ref n) (.fl ys) h) QL E := by
  have e1 : lsOf h (.ref n) = some xs := by unfold lsOf; dsimp only; rw [e]
  have e2 : lsOf h (.fl ys) = some ys := rfl
  unfold addLL; rw [e1, e2]; exact wp_ite_t hl ⟨q⟩
theorem wp_addLFF {xs ys : List MV} (hl : xs.length + ys.length ≤ 16777216) (q : QL (xs ++ ys) h) : okR (addLL (.fl xs) (.fl ys) h) QL E := wp_ite_t hl ⟨q⟩
theorem wp_addLRR {n m : Nat} {xs ys : List MV} (e : h[n]? = some (.lst xs)) (e3 : h[m]? = some (.lst ys)) (hl : xs.length + ys.length ≤ 16777216) (q : QL (xs ++ ys) h) : okR (addLL (.ref n) (.ref m) h) QL E := by
  have e1 : lsOf h (.ref n) = some xs := by unfold lsOf; dsimp only; rw [e]
  have e2 : lsOf h (.ref m) = some ys := by unfold lsOf; dsimp only; rw [e3]
  unfold addLL; rw [e1, e2]; exact wp_ite_t hl ⟨q⟩
theorem len_add (a b : Str) : (a ++ b).length = a.length + b.length := Str.length_append a b
theorem len_one (c : Nat) : (⟨#[c]⟩ : Str).length = 1 := rfl
theorem len_cutS (z : Str) (lo hi : Option Int) : (cutS z lo hi).length ≤ z.length := by
  unfold cutS Str.length
  simp only [List.size_toArray, List.length_take, List.length_drop, Array.length_toList]
  omega
theorem len_up (z : Str) : (Txt.upper z).length ≤ 3 * z.length := PyProof.Rows.len_upper z
theorem inB_one {z : Str} {c : Nat} : inB h (.str ⟨#[c]⟩) (.str z) = some (decide (c ∈ z.cps.toList)) := by
  show some _ = _
  rw [StrLaws.found_one]
theorem strMVs_map (z : Str) : strMVs z = z.cps.toList.map fun c => .str ⟨#[c]⟩ := rfl
theorem strMVs_len (z : Str) : (strMVs z).length = z.length := by rw [strMVs_map, List.length_map, Array.length_toList]; rfl
theorem wp_ixFp {xs : List MV} {i : Int} (P : MV → Prop) (hx : ∀ x ∈ xs, P x) (h0 : 0 ≤ i) (h1 : i < (xs.length : Int)) (q : ∀ x, P x → Q x h) : okR (ixO (.fl xs) (.int i) h) Q E := by
  obtain ⟨p, hp, _, ep⟩ := atI_mem (f := fun x : MV => x) (xs := xs) (i := i) h0 h1
  rw [List.map_id'] at ep
  exact wp_ixF ep (q p (hx p hp))
theorem wp_ixTp {xs : List MV} {i : Int} (P : MV → Prop) (hx : ∀ x ∈ xs, P x) (h0 : 0 ≤ i) (h1 : i < (xs.length : Int)) (q : ∀ x, P x → Q x h) : okR (ixO (.tup xs) (.int i) h) Q E := by
  obtain ⟨p, hp, _, ep⟩ := atI_mem (f := fun x : MV => x) (xs := xs) (i := i) h0 h1
  rw [List.map_id'] at ep
  exact wp_ixT ep (q p (hx p hp))
theorem wp_ixRp {n : Nat} {xs : List MV} {i : Int} (P : MV → Prop) (e : h[n]? = some (.lst xs)) (hx : ∀ x ∈ xs, P x) (h0 : 0 ≤ i) (h1 : i < (xs.length : Int)) (q : ∀ x, P x → Q x h) : okR (ixO (.ref n) (.int i) h) Q E := by
  obtain ⟨p, hp, _, ep⟩ := atI_mem (f := fun x : MV => x) (xs := xs) (i := i) h0 h1
  rw [List.map_id'] at ep
  exact wp_ixR e ep (q p (hx p hp))
theorem loc_getK {α : Type} (g t s : List α) (u : α) (k : Nat) : (g ++ u :: (t ++ s))[g.length + (t.length + k + 1)]? = s[k]? := by
  rw [List.getElem?_append_right (by omega), show g.length + (t.length + k + 1) - g.length = (t.length + k) + 1 by omega, List.getElem?_cons_succ, List.getElem?_append_right (by omega), show t.length + k - t.length = k by omega]
theorem loc_setK {α : Type} (g t s : List α) (u v : α) (k : Nat) : (g ++ u :: (t ++ s)).set (g.length + (t.length + k + 1)) v = g ++ u :: (t ++ s.set k v) := by
  rw [List.set_append_right _ _ (by omega), show g.length + (t.length + k + 1) - g.length = (t.length + k) + 1 by omega, List.set_cons_succ, List.set_append_right _ _ (by omega), show t.length + k - t.length = k by omega]
theorem loc_get3 {α : Type} (g t s : List α) (u c d e : α) : (g ++ u :: (t ++ c :: d :: e :: s))[g.length + (t.length + 1 + 1 + 1)]? = some e := by
  rw [List.getElem?_append_right (by omega)]
  rw [show g.length + (t.length + 1 + 1 + 1) - g.length = (t.length + 1 + 1) + 1 by omega, List.getElem?_cons_succ, List.getElem?_append_right (by omega)]
  simp
theorem loc_set3 {α : Type} (g t s : List α) (u c d e v : α) : (g ++ u :: (t ++ c :: d :: e :: s)).set (g.length + (t.length + 1 + 1 + 1)) v = g ++ u :: (t ++ c :: d :: v :: s) := by
  rw [List.set_append_right _ _ (by omega)]
  rw [show g.length + (t.length + 1 + 1 + 1) - g.length = (t.length + 1 + 1) + 1 by omega, List.set_cons_succ, List.set_append_right _ _ (by omega)]
  simp
end
/-- plain signs alone -/
def Asc (z : Str) : Prop := z.cps.toList.all (fun c => decide (c < 128)) = true
theorem asc_iff {z : Str} : Asc z ↔ ∀ c ∈ z.cps.toList, c < 128 := by unfold Asc; rw [List.all_eq_true]; exact ⟨fun h c hc => of_decide_eq_true (h c hc), fun h c hc => decide_eq_true (h c hc)⟩
theorem Asc.app {a b : Str} (ha : Asc a) (hb : Asc b) : Asc (a ++ b) := by
  rw [asc_iff] at *
  intro c hc
  rw [show (a ++ b).cps.toList = a.cps.toList ++ b.cps.toList by rw [show (a ++ b).cps = a.cps ++ b.cps from rfl, Array.toList_append]] at hc
  exact (List.mem_append.mp hc).elim (ha c) (hb c)
theorem Asc.cut {z : Str} (ha : Asc z) (lo hi : Option Int) : Asc (cutS z lo hi) := by
  rw [asc_iff] at *
  intro c hc
  unfold cutS at hc
  exact ha c (List.mem_of_mem_drop (List.mem_of_mem_take (by simpa using hc)))
theorem Asc.up {z : Str} (ha : Asc z) : Asc (Txt.upper z) := by
  have e : z = SX.S z.cps.toList := by cases z; simp
  rw [e, SX.upper_S ha, asc_iff]
  rw [asc_iff] at ha
  intro c hc
  obtain ⟨d, hd, rfl⟩ := List.mem_map.mp (show c ∈ z.cps.toList.map PyProof.Rows.up1 from by simpa only [SX.S, List.toList_toArray] using hc)
  have := ha d hd
  unfold PyProof.Rows.up1
  split <;> omega
theorem Asc.one {c : Nat} (h : c < 128) : Asc ⟨#[c]⟩ := by unfold Asc; simp [h]
theorem Asc.dat {c : Nat} (h : c < 128) (n : Nat) : datN n (.str ⟨#[c]⟩) = true := by
  have : PyData.strOk ⟨#[c]⟩ = true := by unfold PyData.strOk; simp; omega
  unfold datN PyData.canLay0
  exact this
instance {z : Str} : Decidable (Asc z) := inferInstanceAs (Decidable (_ = true))
section
variable {h : MH} {E : PE'} {Q : MV → MH → Prop}
theorem wp_slSa {z : Str} {lo hi : Option Int} (ha : Asc z) (hz : z.length ≤ 16777216) (q : ∀ y : Str, Asc y → y.length ≤ z.length → Q (.str y) h) : okR (slO (.str z) lo hi h) Q E := wp_slS hz (q _ (ha.cut lo hi) (len_cutS z lo hi))
theorem wp_addSa {a b : Str} (ha : Asc a) (hb : Asc b) (hl : a.length + b.length ≤ 16777216) (q : ∀ y : Str, Asc y → y.length = a.length + b.length → Q (.str y) h) : okR (addO (.str a) (.str b) h) Q E := wp_addS hl (q _ (ha.app hb) (len_add a b))
theorem wp_upa {z : Str} (ha : Asc z) (hz : z.length ≤ 5592405) (q : ∀ y : Str, Asc y → y.length ≤ 3 * z.length → Q (.str y) h) : okR (upperM (.str z) h) Q E := wp_upper hz (q _ ha.up (len_up z))
end
end ML

set_option maxRecDepth 100000
set_option maxHeartbeats 4000000
/-! ML20: how many unlike texts a tuple has: len(set(t)). -/
namespace ML
open PySem PySem.Spec PyProof.Rows L2
/-- the unlike ones, as they come -/
def apart (zs : List Str) : List Str := zs.foldl (fun acc z => if z ∈ acc then acc else acc ++ [z]) []
theorem apart_snoc (zs : List Str) (z : Str) : apart (zs ++ [z]) = if z ∈ apart zs then apart zs else apart zs ++ [z] := by unfold apart; rw [List.foldl_append]; rfl
theorem take_snoc {zs : List Str} {i : Nat} {z : Str} (h : zs[i]? = some z) : zs.take (i + 1) = zs.take i ++ [z] := by rw [List.take_add_one, h]; rfl
theorem mem_apart' (zs : List Str) : ∀ (i : Nat) (z : Str), z ∈ apart (zs.take i) ↔ z ∈ zs.take i
  | 0, z => by simp [apart]
  | i + 1, z => by
    cases h : zs[i]? with
    | none => rw [List.take_add_one, h]; simpa using mem_apart' zs i z
    | some x =>
      rw [take_snoc h, apart_snoc]
      have ih := mem_apart' zs i
      split
      · rename_i hm
        rw [List.mem_append, ih z]
        constructor
        · exact fun q => .inl q
        · rintro (q | q)
          · exact q
          · have e : z = x := by simpa using q
            subst e; exact (ih z).mp hm
      · rw [List.mem_append, List.mem_append, ih z]
theorem mem_apart (zs : List Str) (z : Str) : z ∈ apart zs ↔ z ∈ zs := by have := mem_apart' zs zs.length z; rwa [List.take_length] at this
theorem apart_len' (zs : List Str) : ∀ i, (apart (zs.take i)).length ≤ (zs.take i).length ∧ ((apart (zs.take i)).length = (zs.take i).length ↔ (zs.take i).Nodup)
  | 0 => by simp [apart]
  | i + 1 => by
    cases h : zs[i]? with
    | none => rw [List.take_add_one, h]; simpa using apart_len' zs i
    | some x =>
      rw [take_snoc h, apart_snoc]
      obtain ⟨h1, h2⟩ := apart_len' zs i
      have hm := mem_apart' zs i x
      split
      · rename_i hx
        rw [hm] at hx
        refine ⟨by rw [List.length_append]; omega, ⟨fun e => by rw [List.length_append, List.length_cons, List.length_nil] at e; omega, fun e => ?_⟩⟩
        rw [List.nodup_append] at e
        exact absurd rfl (e.2.2 x hx x (by simp))
      · rename_i hx
        rw [hm] at hx
        rw [List.length_append, List.length_append, List.nodup_append]
        refine ⟨by rw [List.length_cons, List.length_nil]; omega, ⟨fun e => ⟨h2.mp (by simpa using e), by simp, fun a ha b hb => ?_⟩, fun e => by have := h2.mpr e.1; simp [this]⟩⟩
        have : b = x := by simpa using hb
        subst this
        exact fun z => hx (z ▸ ha)
theorem apart_len (zs : List Str) : (apart zs).length ≤ zs.length ∧ ((apart zs).length = zs.length ↔ zs.Nodup) := by have := apart_len' zs zs.length; rwa [List.take_length] at this
section
variable {P : Program} {w : World} {A : Around} {E : Value → Shared → Prop} {s : Shared}
theorem setOf_keep {h h' : Heap} {a : Addr} {S : Str → Bool} {n : Nat} (x : h.SetOf (PySem.strKind P w) a S n) (k : ∀ o, h.get? a = some o → h'.get? a = some o) : h'.SetOf (PySem.strKind P w) a S n := by
  obtain ⟨o, es, ep, t, ho, r⟩ := x
  exact ⟨o, es, ep, t, k o ho, r⟩
theorem loop_txts {I : Addr} {fp wr : List Addr} {G : Array GenState → Array GenState → Prop} {n : Nat} {Pv : Nat → Value → Prop} {St : Nat → Shared → Prop} {R : Result → Shared → Prop}
    (W : WalksS P w A.in1 I fp wr G n Pv St) (S : Addr) (out : S ∉ fp) (zs : List Str) (hn : n = zs.length) (hb : zs.length + 1 < scanBound) (val : ∀ i v, Pv i v → ∃ z t, zs[i]? = some z ∧ v = .str z t) :
    ∀ (k i : Nat) (s : Shared), n - i = k → i ≤ n → St i s → s.heap.SetOf (PySem.strKind P w) S (fun z => decide (z ∈ zs.take i)) (apart (zs.take i)).length →
      (∀ s', Moved (S :: wr) G s s' → s'.heap.SetOf (PySem.strKind P w) S (fun z => decide (z ∈ zs)) (apart zs).length → R (.ok (.ret .none)) s') →
      codeAny (model P w) A (.builtin "set.update.loop" ⟨[.ref S, .ref I], []⟩) R s
  | 0, i, s, hk, hi, hst, hS, hR => by
    have hin : i = n := by omega
    subst hin
    refine codeAny_builtin PyProof.Rows.F.entry_set_update_loop ?_
    rw [Around.under_plainId PyProof.Rows.F.plain_set_update_loop _]
    show wpAny _ _ (pyNext (.ref I) >>= _) _ _ s
    refine wpAny_bind (W.done s _ _ hst fun s' hm => ?_)
    show wpAny _ _ (ret Value.none) _ _ s'
    rw [show zs.take i = zs from List.take_of_length_le (by omega)] at hS
    exact wpAny_pure (hR s' (hm.mono fun b hb => List.mem_cons_of_mem _ hb) (setOf_keep hS fun o e => hm.heap S o (fun q => out (W.sub _ q)) e))
  | k + 1, i, s, hk, hi, hst, hS, hR => by
    have hlt : i < n := by omega
    refine codeAny_builtin PyProof.Rows.F.entry_set_update_loop ?_
    rw [Around.under_plainId PyProof.Rows.F.plain_set_update_loop _]
    show wpAny _ _ (pyNext (.ref I) >>= _) _ _ s
    refine wpAny_bind (W.item i s _ _ hlt hst fun v s' hP hst' hm => ?_)
    obtain ⟨z, t, hz, rfl⟩ := val i v hP
    have hS' := setOf_keep hS fun o e => hm.heap S o (fun q => out (W.sub _ q)) e
    show wpAny _ _ (holding [Value.str z t] (setAdd S (.str z t)) >>= _) _ _ s'
    refine wpAny_bind (wpAny_holding ?_)
    unfold setAdd
    refine wpAny_holding ?_
    refine wpAny_bind ((PySem.strKind P w).pyHash (k := z) (strKind_is _ _ _ _) ?_)
    have hle := (apart_len' zs i).1
    have htl : (zs.take i).length ≤ zs.length := by rw [List.length_take]; omega
    refine wpAny_setAddHashed_of (knd := PySem.strKind P w) (s := { s' with toks := s'.toks + 1 }) (strKind_is _ _ _ _) rfl hS' (by omega) fun h' sb hS2 => ?_
    have hS3 : h'.SetOf (PySem.strKind P w) S (fun y => decide (y ∈ zs.take (i + 1))) (apart (zs.take (i + 1))).length := by
      refine SetOf_congr hS2 (fun y => ?_) ?_
      · rw [take_snoc hz]
        rw [Bool.eq_iff_iff]
        simp [List.mem_append]
      · rw [take_snoc hz, apart_snoc]
        by_cases hq : z ∈ zs.take i
        · rw [if_pos ((mem_apart' zs i z).mpr hq)]; simp [hq]
        · rw [if_neg (fun q => hq ((mem_apart' zs i z).mp q))]; simp [hq]
    refine wpAny_pure ⟨plainId_quiet PyProof.Rows.F.plain_set_update_loop _, loop_txts W S out zs hn hb val k (i + 1) _ (by omega) hlt (W.frame _ s' _ _ hst' (Nat.le_succ _) fun b hb o e => ?_) hS3 fun s2 hm2 hS4 => ?_⟩
    · rw [sb.2 b (fun q : b = S => out (by rw [← q]; exact hb))]; exact e
    · refine hR s2 (Moved.trans W.gtrans ((hm.mono fun b hb => List.mem_cons_of_mem _ hb).then_heap (Nat.le_succ _) fun b o hb e => ?_) hm2) hS4
      rw [sb.2 b (fun q : b = S => hb (by rw [q]; exact List.mem_cons_self))]; exact e
abbrev set0 (led : Bool) : Obj := { cls := .type "set", dict := none, data := .set #[] 0 (.fresh 0 0 led) }
set_option maxRecDepth 100000 in
theorem call_txts {l : Addr} {us : Array Value} (zs : List Str) {Q : Value → Shared → Prop} (quiet : A.handled = none) (hl : s.heap.IsTuple l us) (val : ∀ (i : Nat) (v : Value), us[i]? = some v → ∃ z t, zs[i]? = some z ∧ v = Value.str z t) (hsz : us.size = zs.length) (hb : zs.length + 1 < scanBound)
    (fin : ∀ (h' : Heap) (tk : Nat), h'.SetOf (PySem.strKind P w) s.heap.objs.size (fun z => decide (z ∈ zs)) (apart zs).length → (∀ b o, s.heap.get? b = some o → h'.get? b = some o) → Q (.ref s.heap.objs.size) { s with heap := h', toks := tk }) :
    wpAny (model P w) A (call (.type "set") [.ref l]) Q E s := by
  obtain ⟨c, tl, hmro⟩ := F.called_set.mro
  have f1 := F.called_set.made
  have f2 := F.called_set.sub
  refine wpAny_call (codeAny_of_tree ?_)
  show wpAny _ _ (callAny (.type "set") _) _ _ s
  refine wpAny_pure ⟨Code.quiet_builtin _ (by decide +kernel), codeAny_builtin F.entry_type_call ?_⟩
  rw [Around.under_plain (weight_type_call_type "set" [.ref l] []) rfl]
  have f3 := F.called_set.notType; have f4 := F.called_set.canCreate
  have f5 := F.typeCall_set_1 (.ref l)
  repeat (any_goals (first | assumption | wp_step))
  refine codeAny_mono (code_set_new_1 (.ref l) (E := E) (Q₁ := fun ob s1 => ∃ led : Bool, ob = .ref s.heap.objs.size ∧ s1 = { s with heap := s.heap.push (set0 led) }) fun led => ⟨led, rfl, rfl⟩) fun r s1 hr => ?_
  cases r with
  | error e => exact hr
  | ok fl =>
    cases fl with
    | ret ob =>
      obtain ⟨led, rfl, rfl⟩ := hr
      have g0 : (s.heap.push (set0 led)).get? s.heap.objs.size = some (set0 led) := Heap.get?_push_size _ rfl
      have ty : Shared.TypeIs { s with heap := s.heap.push (set0 led) } (.ref s.heap.objs.size) "set" := ⟨_, g0, rfl⟩
      have f6 := F.called_set.init.lookup
      have f7 := F.called_set.init.bind (.ref s.heap.objs.size)
      repeat (any_goals (first | assumption | wp_step))
      refine codeAny_mono (codeAny_call_builtin (R := wants (fun r s2 => r = .none ∧ ∃ h' tk, s2 = { s with heap := h', toks := tk } ∧ h'.SetOf (PySem.strKind P w) s.heap.objs.size (fun z => decide (z ∈ zs)) (apart zs).length ∧ (∀ b o, s.heap.get? b = some o → h'.get? b = some o)) E)
        F.called_set.init.plain F.entry_set_init (check_set_init_1 ty ?_)) fun r2 s2 hr2 => ?_
      · obtain ⟨ol, hol, hcl, nl, hdl⟩ := hl
        obtain ⟨oc, od, odat, osl⟩ := ol
        simp only at hcl hdl
        subst hcl; subst hdl
        have hol' : (s.heap.push (set0 led)).get? l = some { cls := .type "tuple", dict := od, data := .seq us nl, slots := osl } := Heap.get?_push_of_some _ hol
        have f8 := F.sub_tuple_set; have f9 := F.sub_tuple_frozenset
        have f10 : (Value.type "tuple" == Value.type "dict") = false := by decide
        have hl1 : (s.heap.push (set0 led)).IsTuple l us := ⟨_, hol', rfl, nl, rfl⟩
        unfold Builtin.«set.__init__» noKeywords Builtin.Frozenset.updateFrom
        generalize hPI : pyIter = PI
        wp_walk
        subst hPI
        refine wpAny_pyIter_tuple hl1 ?_
        refine wpAny_bind (wpAny_runValue ?_)
        have hlS : l < s.heap.objs.size := Heap.lt_size hol
        have q3 : A.in1.in1.in1.handled = none := by simp [quiet]
        have neI : l ≠ (s.heap.push (set0 led)).objs.size := by rw [Heap.size_push]; exact Nat.ne_of_lt (Nat.lt_succ_of_lt hlS)
        have out : s.heap.objs.size ∉ [(s.heap.push (set0 led)).objs.size, l] := by
          rw [Heap.size_push]; simp only [List.mem_cons, List.not_mem_nil, or_false, not_or]
          exact ⟨Nat.ne_of_lt (Nat.lt_succ_self _), Nat.ne_of_gt hlS⟩
        refine loop_txts ((Walks.tuple q3 _ l neI us).toS) s.heap.objs.size out zs hsz hb val (us.size - 0) 0 _ (by omega) (Nat.zero_le _) ⟨⟨_, Heap.get?_push_size _ rfl, rfl, rfl⟩, (hl1.push _)⟩ ?start ?done
        case start =>
          have g1 : ((s.heap.push (set0 led)).push { cls := .type "tuple_iterator", data := .fields #[.ref l, .int 0 0] }).get? s.heap.objs.size = some (set0 led) := Heap.get?_push_of_some _ g0
          exact SetOf_congr ((setObjOf_fresh (knd := PySem.strKind P w) led).setOf g1 (by unfold scanBound; omega)) (fun z => by simp) rfl
        case done =>
          intro s' hm hS'
          obtain ⟨h', gg, dd, tk', oo⟩ := s'
          have eg : gg = s.gens := hm.gens
          have ed : dd = s.drawn := hm.drawn
          have eo : oo = s.os := hm.os
          subst eg; subst ed; subst eo
          refine wpAny_pure ?_
          show wpAny _ _ (ret Value.none) _ _ _
          refine wpAny_pure ⟨rfl, h', tk', rfl, hS', fun b o e => ?_⟩
          have hb0 : b < s.heap.objs.size := Heap.lt_size e
          have b2 : b ≠ (s.heap.push (set0 led)).objs.size := by rw [Heap.size_push]; exact Nat.ne_of_lt (Nat.lt_succ_of_lt hb0)
          exact hm.heap b o (by simp only [List.mem_cons, List.not_mem_nil, or_false, not_or]; exact ⟨Nat.ne_of_lt hb0, b2⟩) (Heap.get?_push_of_some _ (Heap.get?_push_of_some _ e))
      · cases r2 with
        | error e => exact hr2
        | ok fl2 =>
          cases fl2 with
          | ret r =>
            obtain ⟨rfl, h', tk, rfl, hS', hk'⟩ := hr2
            repeat (any_goals (first | assumption | wp_step))
            exact fin _ _ hS' hk'
          | _ => exact hr2.elim
    | _ => exact hr.elim
end
end ML

set_option maxRecDepth 100000
set_option maxHeartbeats 4000000
/-! ML21: len(set(t)) of a tuple of texts; str(an int). -/
namespace ML
open PySem PySem.Spec PyProof.Rows L2
/-- a set of texts -/
def SetSO (P : Program) (w : World) (a : Addr) (zs : List Str) : HO := .ext fun h => h.SetOf (PySem.strKind P w) a (fun z => decide (z ∈ zs)) (apart zs).length
theorem setSO_ok {P : Program} {w : World} {H : Hp} {h : Heap} {a : Addr} {zs : List Str} (R : h.SetOf (PySem.strKind P w) a (fun z => decide (z ∈ zs)) (apart zs).length) : ObjOk P w H h a (SetSO P w a zs) := by
  have ⟨o, _, _, _, ho, _⟩ := R
  exact ⟨R, ⟨o, ho⟩, fun h1 h2 q k => setOf_keep q k⟩
theorem vals_strs : ∀ {zs : List Str} {us : List Value}, Vals (zs.map V.str) us → ∀ (i : Nat) (v : Value), us[i]? = some v → ∃ z t, zs[i]? = some z ∧ v = Value.str z t
  | [], us, r, i, v, e => by cases r; simp at e
  | z :: zs, us, r, i, v, e => by
    rw [List.map_cons] at r
    cases r with
    | cons a b =>
      cases i with
      | zero =>
        obtain ⟨t, q⟩ := a
        simp at e
        exact ⟨z, t, rfl, by rw [← e, q]⟩
      | succ i => exact vals_strs b i v (by simpa using e)
section
variable {X : Cx} {W : WX} {pos : Pos}
def rSetT (X : Cx) : List L2.V → Hp → VK → Prop := fun xs H Q => ∃ p zs, xs = [.ref p] ∧ SqT X.K H p (zs.map V.str) ∧ zs.length ≤ 1000 ∧ ∀ q, H q = none → Q (.ref q) (upd H q (SetSO X.prog X.w q zs))
theorem call_setT (hc : X.calm = true) : CallR X (.type "set") (rSetT X) := by
  intro pins s σ H xs us Q I r h
  obtain ⟨p, zs, rfl, hq, hz, q⟩ := h
  obtain ⟨u, rfl, rx⟩ := vals1 r
  cases rx
  obtain ⟨its, rv, pl, _⟩ := I.tuple hq
  have hlen : its.length = zs.length := by rw [← rv.length, List.length_map]
  refine call_txts zs (I.ok.hd hc) (show s.heap.IsTuple p its.toArray from pl) (fun i v e => vals_strs rv i v (by simpa using e)) (by simpa using hlen) (by unfold scanBound; omega) fun h' tk hS hk => ?_
  exact ⟨.ref s.heap.objs.size, upd H s.heap.objs.size (SetSO X.prog X.w s.heap.objs.size zs), I.laid hk (Nat.le_refl _) (setSO_ok hS), rfl, q _ (I.hok.fresh (Nat.le_refl _))⟩
def rLenS0 (X : Cx) : List L2.V → Hp → VK → Prop := fun xs H Q => ∃ a zs, xs = [.ref a] ∧ H a = some (SetSO X.prog X.w a zs) ∧ zs.length ≤ 1000 ∧ Q (.int (apart zs).length) H
theorem call_lenS0 : CallR X (.builtin "len") (rLenS0 X) := by
  intro pins s σ H xs us Q I r h
  obtain ⟨a, zs, rfl, ha, hz, q⟩ := h
  obtain ⟨u, rfl, rx⟩ := vals1 r
  cases rx
  obtain ⟨o, es, ep, t, ho, hex, hd, _, _, _, hf, hn⟩ : s.heap.SetOf (PySem.strKind X.prog X.w) a (fun z => decide (z ∈ zs)) (apart zs).length := (I.hok a _ ha).1
  have hle := (apart_len zs).1
  refine call_len_set ho hex hd hf (by omega) ⟨.int (apart zs).length, H, I.tok _, ⟨s.toks + 1, by rw [hn]⟩, q⟩
/-- the texts of a list of values -/
def txts : List MV → Option (List Str)
  | [] => some []
  | .str z :: r => (txts r).map (z :: ·)
  | _ => none
theorem txts_ok {K mg γ ι H} : ∀ {xs : List MV} {vs : List L2.V} {zs : List Str}, VRs K mg γ ι H xs vs → txts xs = some zs → vs = zs.map V.str ∧ xs.length = zs.length
  | [], _, _, .nil, e => by cases e; exact ⟨rfl, rfl⟩
  | .str z :: xs, _, _, .cons a b, e => by
    unfold txts at e
    obtain ⟨ws, e1, rfl⟩ := Option.map_eq_some_iff.mp e
    cases a
    obtain ⟨h1, h2⟩ := txts_ok b e1
    exact ⟨by rw [h1]; rfl, by rw [List.length_cons, List.length_cons, h2]⟩
/-- len(set(x)) -/
def lenSetO (x : MV) (h : MH) : MR MV := match x with
  | .tup xs => match txts xs with
    | some zs => if zs.length ≤ 1000 then .ok (.int (apart zs).length) h else .stuck
    | none => .stuck
  | _ => .stuck
def mLenSet (m : MEx) : MEx := fun l h => (m l h).bind lenSetO
theorem me_lenSet {p p2 pos2 : Pos} {e : Expr} {m : MEx} (hc : X.calm = true) (hl : X.mg "len" = none) (hs : X.mg "set" = none) (he : ME X W e m) (gl : Gl X "len" := by rfl) (gs : Gl X "set" := by rfl)
    (st : starEach [e] X.env = (false, eval e X.env) :: starEach [] X.env := by rfl) (pl : (backTo pos2 (starEach [] X.env)).any (·.1) = false := by rfl)
    (st2 : starEach [.Call (.Name "set" p2) [e] [] pos2] X.env = (false, eval (.Call (.Name "set" p2) [e] [] pos2) X.env) :: starEach [] X.env := by rfl) (pl2 : (backTo pos (starEach [] X.env)).any (·.1) = false := by rfl) :
    ME X W (.Call (.Name "len" p) [.Call (.Name "set" p2) [e] [] pos2] [] pos) (mLenSet m) :=
  peW (pe_callB call_lenS0 gl hl (by decide +kernel) (pa_cons (pe_callTy (call_setT hc) gs hs (by decide +kernel) (pa_cons he pa_nil st) (by decide) (by decide) st pl) pa_nil st2) (by decide) (by decide) st2 pl2) fun σ H Q ⟨γ, ι, l, h, s, lr, p⟩ => ⟨γ, ι, l, h, s, lr, p.seq (rel := rV X) fun ι1 x h1 V H1 e1 ⟨s1, r1⟩ p1 => by
    unfold lenSetO at p1
    split at p1
    · split at p1
      · rename_i zs ez
        split at p1
        · rename_i hz
          obtain ⟨a, vs, rfl, sa, ra⟩ := r1.tupS
          obtain ⟨rfl, _⟩ := txts_ok ra ez
          refine ⟨a, zs, rfl, sa, hz, fun q hq => ?_⟩
          obtain ⟨s2, e2⟩ := s1.lay (w := SetSO X.prog X.w q zs) hq
          exact ⟨q, zs, rfl, upd_same, hz, p1.okE e2 ⟨s2, .int _⟩⟩
        · exact p1.elim
      · exact p1.elim
    · exact p1.elim⟩
end
end ML
namespace ML
open PySem PySem.Spec PyProof.Rows L2
/-! a module's tuple of texts; str(an int) -/
def TcF (K : PySem.W.Frag) (mg : Str → Option Value) (x : Str) (zs : List Str) : Prop := ∃ p, mg x = some (.ref p) ∧ ∀ H, SqT K H p (zs.map V.str)
theorem tcB_ok {K : PySem.W.Frag} {h : Heap} {mg : Str → Option Value} (X : K.In h) (G : h.Ns mainGlobals mg) {x : Str} {zs : List Str} (c : tcB x zs K = true) : TcF K mg x zs := by
  obtain ⟨c1, c2⟩ := Bool.and_eq_true_iff.mp c
  refine ⟨_, gloB_ok X G c1, fun H => ?_⟩
  have := He.tupB_ok c2 H
  rw [List.map_map] at this
  exact this
theorem strs_rs {K mg γ ι H} : ∀ zs : List Str, VRs K mg γ ι H (zs.map MV.str) (zs.map V.str)
  | [] => .nil
  | _ :: zs => .cons (.str _) (strs_rs zs)
section
variable {X : Cx} {W : WX} {pos : Pos}
theorem me_gt {x : Str} {zs : List Str} (T : TcF X.K X.mg x zs) (hg : Gl X x := by rfl) (hd : (x == ("__debug__" : Str)) = false := by decide) : ME X W (.Name x pos) (mc (.tup (zs.map .str))) := by
  obtain ⟨p, hm, ht⟩ := T
  exact me_gtup hm ht (fun _ _ _ => strs_rs zs) hg hd
def strC : MCf := fun xs h => match xs with
  | [.int i] => if i.natAbs.log2 < 1920 then .ok (.str (toString i)) h else .stuck
  | _ => .stuck
theorem nx_strC (xs h) : NoX (strC xs h) := by
  unfold strC; split
  · split; exact nx_ok; exact nx_stuck
  · exact nx_stuck
theorem cm_strC : CallM X (.type "str") strC := by
  rintro pins s σ H Vs us Q I r ⟨γ, ι, h, xs, sm, q, p⟩
  unfold strC at p
  split at p
  · split at p
    · rename_i hz
      obtain ⟨V, rfl, q1⟩ := q.c1
      cases q1
      exact call_str_int pins s σ H _ us Q I r ⟨_, rfl, hz, p.ok ⟨sm, .str _⟩⟩
    · exact p.elim
  · exact p.elim
end
section
variable {l : Loc} {h : MH} {E : PE'} {Q : MV → MH → Prop}
theorem wp_lenSet {m : MEx} (o : okR (m l h) (fun x h1 => okR (lenSetO x h1) Q E) E) : okR (mLenSet m l h) Q E := okR_bind o
theorem txts_map (zs : List Str) : txts (zs.map MV.str) = some zs := by
  induction zs with
  | nil => rfl
  | cons z zs ih => rw [List.map_cons]; unfold txts; rw [ih]; rfl
theorem wp_lenSetT {zs : List Str} (hz : zs.length ≤ 1000) (q : Q (.int (apart zs).length) h) : okR (lenSetO (.tup (zs.map .str)) h) Q E := by
  show okR (match txts (zs.map MV.str) with | some zs => _ | none => _) Q E
  rw [txts_map]
  exact wp_ite_t hz ⟨q⟩
end
end ML

set_option maxRecDepth 100000
set_option maxHeartbeats 4000000
/-! ML22: a dict of the module: texts to tuples of defs. -/
namespace ML
open PySem PySem.Spec PyProof.Rows L2
/-! ### the head's facts, with tables -/
def obsN (n : Nat) (fa : List He.Fa) (fn : List He.DefD) (ex : PySem.W.Frag → Bool) (ts : List He.Tab) (g : Addr → Option Obj) : AlN := (obsM n fa fn ex g, ts.map fun t => He.dicW (He.frT g (asM g n)) (t.1 (He.frT g (asM g n))))
def hookN (n : Nat) (fa : List He.Fa) (fn : List He.DefD) (ex : PySem.W.Frag → Bool) (ts : List He.Tab) : PySem.W.Hook where
  α := AlN
  obs := fun t => obsN n fa fn ex ts t.heap.get?
  val := fun w => ((He.valD fn, true), ts.map fun t => some (He.keysIn w.params t.2))
  says := fun w h => ∃ K : PySem.W.Frag, K.In h ∧ SaysN fa fn ex ts w K
  of := fun w t q => by
    have q1 : obsM n fa fn ex t.heap.get? = (He.valD fn, true) := congrArg Prod.fst q
    have q2 : (ts.map fun z => He.dicW (He.frT t.heap.get? (asM t.heap.get? n)) (z.1 (He.frT t.heap.get? (asM t.heap.get? n)))) = ts.map fun z => some (He.keysIn w.params z.2) := congrArg Prod.snd q
    exact ⟨_, He.frT_in, ⟨⟨congrArg Prod.fst q1, congrArg Prod.snd q1⟩, q2⟩⟩
  keeps := fun _ _ _ ⟨K, i, c⟩ k => ⟨K, PySem.W.Frag.In.keeps i k, c⟩
theorem obsN_eq {n : Nat} {fa : List He.Fa} {fn : List He.DefD} {ex : PySem.W.Frag → Bool} {ts : List He.Tab} {g : Addr → Option Obj} {t : Shared} (h : ∀ a, g a = t.heap.get? a) : obsN n fa fn ex ts g = (hookN n fa fn ex ts).obs t := by
  rw [show g = t.heap.get? from funext h]; rfl
/-! ### what stands in the table -/
theorem kvs_find : ∀ {es : List DictEntry} {kvs : List (Str × Value)} (z : Str), kvsOf es = some kvs → (match es.find? (·.key.isStr z) with
      | some e => some (some e.val)
      | none => if es.any (·.refKey) then none else some none) = some (lookS kvs z)
  | [], _, z, h => by cases h; rfl
  | e :: r, kvs, z, h => by
    unfold kvsOf at h
    split at h
    · rename_i p ps h1 h2
      cases h
      unfold kvOf at h1
      split at h1
      · rename_i x t hk
        cases h1
        have ih := kvs_find z h2
        have e1 : e.key.isStr z = decide (x = z) := by rw [hk]; show (x == z) = _; by_cases q : x = z <;> simp [q]
        have e2 : e.refKey = false := by unfold DictEntry.refKey; rw [hk]
        rw [List.find?_cons, List.any_cons, e1, e2]
        unfold lookS
        rw [List.find?_cons]
        by_cases hz : x = z
        · rw [decide_eq_true hz]; rfl
        · rw [decide_eq_false hz]
          exact ih
      · cases h1
    · cases h
theorem kdVals_ns {K : PySem.W.Frag} {a : Addr} {kvs : List (Str × Value)} (h : kdVals K a = some kvs) (z : Str) : PySem.W.nsIn K a z = some (lookS kvs z) := by
  unfold kdVals at h
  unfold PySem.W.nsIn
  split at h
  · rename_i e
    rw [e]
    exact kvs_find z h
  · cases h
end ML
namespace ML
open PySem PySem.Spec PyProof.Rows L2
theorem tvB_ok {K : PySem.W.Frag} {v : Value} {fs : List Str} (h : tvB K v fs = true) : ∃ p, v = .ref p ∧ ∀ H, SqT K H p (fs.map fun f => V.ref (He.ga K f)) := by
  unfold tvB at h
  cases v with
  | ref p =>
    refine ⟨p, rfl, fun H => ?_⟩
    dsimp only at h
    split at h
    · rename_i c od its n sl q
      obtain ⟨h1, h2⟩ := Bool.and_eq_true_iff.mp h
      obtain ⟨h3, h4⟩ := Bool.and_eq_true_iff.mp h2
      exact .inr ⟨_, its, n, q, congrArg Value.type (of_decide_eq_true h1), rfl, of_decide_eq_true h3, He.relAll_ok h4⟩
    · cases h
  | _ => cases h
theorem rows_look {K : PySem.W.Frag} : ∀ {kvs : List (Str × Value)} {tbl : Tbl} (z : Str), rowsB K kvs tbl = true → (lookS tbl z = none ∧ lookS kvs z = none) ∨ ∃ fs v, lookS tbl z = some fs ∧ lookS kvs z = some v ∧ tvB K v fs = true ∧ ∃ t ∈ tbl, t.2 = fs
  | [], [], z, _ => .inl ⟨rfl, rfl⟩
  | p :: ps, t :: ts, z, h => by
    unfold rowsB at h
    obtain ⟨h1, h2⟩ := Bool.and_eq_true_iff.mp h
    obtain ⟨h3, h4⟩ := Bool.and_eq_true_iff.mp h2
    have e := of_decide_eq_true h1
    unfold lookS
    rw [List.find?_cons, List.find?_cons]
    by_cases q : t.1 = z
    · rw [decide_eq_true q, decide_eq_true (e.trans q)]
      exact .inr ⟨t.2, p.2, rfl, rfl, h3, t, List.mem_cons_self, rfl⟩
    · rw [decide_eq_false q, decide_eq_false (fun w => q (e.symm.trans w))]
      rcases rows_look z h4 with r | ⟨fs, v, r1, r2, r3, u, r4, r5⟩
      · exact .inl r
      · exact .inr ⟨fs, v, r1, r2, r3, u, List.mem_cons_of_mem _ r4, r5⟩
structure TbF (K : PySem.W.Frag) (w : World) (mg : Str → Option Value) (x : Str) (tbl : Tbl) : Prop where
  ex : ∃ d es n, mg x = some (.ref d) ∧ KDict K w d es n ∧ ∀ z, (lookS tbl z = none ∧ PySem.W.nsIn K d z = some none) ∨
    ∃ fs p, lookS tbl z = some fs ∧ PySem.W.nsIn K d z = some (some (.ref p)) ∧ ∀ γ ι H, VR K mg γ ι H (.tup (fs.map .glo)) (.ref p)
theorem glos_rs {K : PySem.W.Frag} {mg : Str → Option Value} {γ ι H} : ∀ {fs : List Str}, (∀ f ∈ fs, mg f = some (.ref (He.ga K f))) → VRs K mg γ ι H (fs.map .glo) (fs.map fun f => V.ref (He.ga K f))
  | [], _ => .nil
  | f :: fs, h => .cons (.glo (h f List.mem_cons_self)) (glos_rs fun g hg => h g (List.mem_cons_of_mem _ hg))
theorem tbB_ok {K : PySem.W.Frag} {w : World} {h : Heap} {mg : Str → Option Value} (X : K.In h) (G : h.Ns mainGlobals mg) {x : Str} {tbl : Tbl} (c : tbB x tbl K = true) (t : He.dicW K (He.ga K x) = some (He.keysIn w.params (tbl.map (·.1)))) : TbF K w mg x tbl := by
  obtain ⟨c1, c2⟩ := Bool.and_eq_true_iff.mp c
  obtain ⟨c3, c4⟩ := Bool.and_eq_true_iff.mp c2
  obtain ⟨es, n, D⟩ := He.dicW_ok t
  split at c3
  · rename_i kvs hk
    refine ⟨_, es, n, gloB_ok X G c1, D, fun z => ?_⟩
    have hn := kdVals_ns hk z
    rcases rows_look z c3 with ⟨h1, h2⟩ | ⟨fs, v, h1, h2, h3, t, ht, rfl⟩
    · exact .inl ⟨h1, by rw [hn, h2]⟩
    · obtain ⟨p, rfl, hp⟩ := tvB_ok h3
      have hg : ∀ f ∈ t.2, mg f = some (.ref (He.ga K f)) := fun f hf => gloB_ok X G (List.all_eq_true.mp (List.all_eq_true.mp c4 t ht) f hf)
      exact .inr ⟨t.2, p, h1, by rw [hn, h2], fun γ ι H => .tup (.inr hp) (glos_rs hg)⟩
  · cases c3
end ML
namespace ML
open PySem PySem.Spec PyProof.Rows L2
/-! ### z in x, z not in x, x[z] -/
def inT (x : Str) (tbl : Tbl) : MOp := fun a b h => match a, b with
  | .str z, .glo y => if y = x then .ok (.bl (lookS tbl z).isSome) h else .stuck
  | _, _ => .stuck
def ninT (x : Str) (tbl : Tbl) : MOp := fun a b h => match a, b with
  | .str z, .glo y => if y = x then .ok (.bl (!(lookS tbl z).isSome)) h else .stuck
  | _, _ => .stuck
def ixT (x : Str) (tbl : Tbl) : MOp := fun a b h => match a, b with
  | .glo y, .str z => if y = x then (match lookS tbl z with
    | some fs => .ok (.tup (fs.map .glo)) h
    | none => .stuck) else .stuck
  | _, _ => .stuck
theorem nx_inT {x tbl} (a b h) : NoX (inT x tbl a b h) := by
  unfold inT
  repeat' split
  all_goals first | exact nx_ok | exact nx_stuck
theorem nx_ninT {x tbl} (a b h) : NoX (ninT x tbl a b h) := by
  unfold ninT
  repeat' split
  all_goals first | exact nx_ok | exact nx_stuck
section
variable {X : Cx} {W : WX} {pos : Pos}
theorem om_inT {x : Str} {tbl : Tbl} (T : TbF X.K X.w X.mg x tbl) : OpM X (compareOp .In) (inT x tbl) := by
  rintro pins s σ H V1 V2 v u Q I r1 r2 ⟨γ, ι, h, a, b, sm, q1, q2, p⟩
  obtain ⟨d, es, n, hm, D, ht⟩ := T.ex
  unfold inT at p
  split at p
  · split at p
    · rename_i z y hy
      subst hy
      cases q1
      cases q2 with
      | glo hg =>
        rw [hm] at hg; cases hg
        rcases ht z with ⟨e1, e2⟩ | ⟨fs, q, e1, e2, _⟩
        · rw [e1] at p
          exact op_in_kd D pins s σ H _ _ v u Q I r1 r2 ⟨z, _, rfl, rfl, e2, p.ok ⟨sm, .bl _⟩⟩
        · rw [e1] at p
          exact op_in_kd D pins s σ H _ _ v u Q I r1 r2 ⟨z, _, rfl, rfl, e2, p.ok ⟨sm, .bl _⟩⟩
    · exact p.elim
  · exact p.elim
theorem om_ninT {x : Str} {tbl : Tbl} (T : TbF X.K X.w X.mg x tbl) : OpM X (compareOp .NotIn) (ninT x tbl) := by
  rintro pins s σ H V1 V2 v u Q I r1 r2 ⟨γ, ι, h, a, b, sm, q1, q2, p⟩
  obtain ⟨d, es, n, hm, D, ht⟩ := T.ex
  unfold ninT at p
  split at p
  · split at p
    · rename_i z y hy
      subst hy
      cases q1
      cases q2 with
      | glo hg =>
        rw [hm] at hg; cases hg
        rcases ht z with ⟨e1, e2⟩ | ⟨fs, q, e1, e2, _⟩
        · rw [e1] at p
          exact op_notIn_kd D pins s σ H _ _ v u Q I r1 r2 ⟨z, _, rfl, rfl, e2, p.ok ⟨sm, .bl _⟩⟩
        · rw [e1] at p
          exact op_notIn_kd D pins s σ H _ _ v u Q I r1 r2 ⟨z, _, rfl, rfl, e2, p.ok ⟨sm, .bl _⟩⟩
    · exact p.elim
  · exact p.elim
theorem me_gT {x : Str} {tbl : Tbl} (T : TbF X.K X.w X.mg x tbl) (hg : Gl X x := by rfl) (hd : (x == ("__debug__" : Str)) = false := by decide) : ME X W (.Name x pos) (mc (.glo x)) := by
  obtain ⟨d, es, n, hm, D, ht⟩ := T.ex
  exact me_gref hm hg hd
theorem me_ixT {x : Str} {tbl : Tbl} {a b : Expr} {ma mb : MEx} (T : TbF X.K X.w X.mg x tbl) (ha : ME X W a ma) (hb : ME X W b mb) (hs : PlainIx b := by exact fun _ _ => rfl) : ME X W (.Subscript a b pos) (mOp (ixT x tbl) ma mb) :=
  peW (pe_ix ix_kdict ha hb hs) fun σ H Q h => bin_of h fun γ ι h a b V1 V2 H s r1 r2 p => by
    obtain ⟨d, es, n, hm, D, ht⟩ := T.ex
    unfold ixT at p
    split at p
    · split at p
      · rename_i y z hy
        subst hy
        cases r2
        cases r1 with
        | glo hg =>
          rw [hm] at hg; cases hg
          split at p
          · rename_i fs e
            rcases ht z with ⟨e1, e2⟩ | ⟨fs2, q, e1, e2, e3⟩
            · rw [e1] at e; cases e
            · rw [e1] at e; cases e
              exact ⟨d, z, .ref q, rfl, rfl, ⟨es, n, .ref q, D.at_, D.lit, e2, rfl⟩, p.ok ⟨s, e3 γ ι H⟩⟩
          · exact p.elim
      · exact p.elim
    · exact p.elim
/-! ### the call of a local that holds one of these defs -/
def findF (fs : List (Str × (List MV → MH → MR MV))) (x : Str) : Option (List MV → MH → MR MV) := (fs.find? fun p => decide (p.1 = x)).map (·.2)
/-- f(..), f a local -/
def mCallL (i n : Nat) (fs : List (Str × (List MV → MH → MR MV))) (a : MLx) : MEx := fun l h => match l[i]? with
  | some (some (.glo x)) => (match findF fs x with
    | some mf => (a l h).bind fun xs h1 => if xs.length = n then mf xs h1 else .stuck
    | none => .stuck)
  | _ => .stuck
theorem me_callL {i n k : Nat} {fs : List (Str × (List MV → MH → MR MV))} {y : Str} {p : Pos} {e : Expr} {es : List Expr} {m : MLx} (A : ∀ x mf, findF fs x = some mf → FnM X.prog X.w X.K X.mg X.base x n k mf) (hr : Room k X.A) (tk : Takes X W) (ha : MA X W (e :: es) m) (hN : X.N[i]? = some y := by rfl) (hv : Vis X.env.scope y)
    (hdb : (y == ("__debug__" : Str)) = false := by decide) (hcd : (y == ("__classdict__" : Str)) = false := by decide)
    (he : starEach (e :: es) X.env = (false, eval e X.env) :: starEach es X.env := by rfl) (hpl : (backTo pos (starEach es X.env)).any (·.1) = false := by rfl) : ME X W (.Call (.Name y p) (e :: es) [] pos) (mCallL i n fs m) := by
  refine ⟨fun pins s σ H Q I ⟨γ, ι, l, h, sm, lr, q⟩ => ?_⟩
  unfold mCallL at q
  split at q
  · rename_i x hl
    split at q
    · rename_i mf hf
      obtain ⟨f, fd, ps, hm, hk, hb, F⟩ := (A x mf hf).ex
      obtain ⟨V, hs, rv⟩ := lr.get hl
      cases rv with
      | glo hg =>
        rw [hm] at hg; cases hg
        refine wpAny_Call_Name_kw (thn ((pe_var (pos := p) hN hv hdb hcd).run pins s σ H (fun v H1 => v = .ref f ∧ H1 = H) I ⟨.ref f, hs, rfl, rfl⟩) fun u s1 ⟨v, H1, I1, r1, q1⟩ => ?_)
        obtain ⟨rfl, rfl⟩ := q1
        cases r1
        refine PySem.W.callWith_K (h₀ := X.base) I.ok.mod.kin hk (thn (PA.run ha pos pins s1 σ _ _ I1 ⟨γ, ι, l, h, sm, lr, q.seq (rel := rVs X) fun ι1 xs h1 Vs H1 e1 ⟨s2, r2⟩ p1 => spM_of s2 r2 p1⟩) fun us s2 ⟨vs, H2, I2, r, q2⟩ => ⟨I2.kIn, ?_⟩) he hpl
        exact run_fnW F hr hb tk I2 r q2
    · exact q.elim
  · exact q.elim
end
end ML
namespace ML
open PySem PySem.Spec PyProof.Rows L2
theorem tabAt {ts : List He.Tab} {w : World} {K : PySem.W.Frag} (h : (ts.map fun t => He.dicW K (t.1 K)) = ts.map fun t => some (He.keysIn w.params t.2)) (k : Nat) {t : He.Tab} (e : ts[k]? = some t) : He.dicW K (t.1 K) = some (He.keysIn w.params t.2) := by
  have := congrArg (fun z => z[k]?) h
  simp only [List.getElem?_map, e, Option.map_some] at this
  exact Option.some.inj this
section
variable {P : Program} {w : World} {K : PySem.W.Frag} {mg : Str → Option Value} {base : Heap} {n k : Nat}
theorem fnA_nil : ∀ x mf, findF [] x = some mf → FnM P w K mg base x n k mf := fun x mf h => by cases h
theorem fnA_cons {y : Str} {m0 : List MV → MH → MR MV} {fs : List (Str × (List MV → MH → MR MV))} (G : FnM P w K mg base y n k m0) (A : ∀ x mf, findF fs x = some mf → FnM P w K mg base x n k mf) : ∀ x mf, findF ((y, m0) :: fs) x = some mf → FnM P w K mg base x n k mf := fun x mf h => by
  unfold findF at h
  rw [List.find?_cons] at h
  by_cases q : y = x
  · subst q
    rw [decide_eq_true rfl] at h
    cases h; exact G
  · rw [decide_eq_false q] at h
    exact A x mf h
end
section
variable {l : Loc} {h : MH} {E : PE'} {Q : MV → MH → Prop}
theorem wp_inT {x : Str} {tbl : Tbl} {z : Str} (q : Q (.bl (lookS tbl z).isSome) h) : okR (inT x tbl (.str z) (.glo x) h) Q E := by
  unfold inT; dsimp only; rw [if_pos rfl]; exact ⟨q⟩
theorem wp_ninT {x : Str} {tbl : Tbl} {z : Str} (q : Q (.bl (!(lookS tbl z).isSome)) h) : okR (ninT x tbl (.str z) (.glo x) h) Q E := by
  unfold ninT; dsimp only; rw [if_pos rfl]; exact ⟨q⟩
theorem wp_ixT2 {x : Str} {tbl : Tbl} {z : Str} {fs : List Str} (e : lookS tbl z = some fs) (q : Q (.tup (fs.map .glo)) h) : okR (ixT x tbl (.glo x) (.str z) h) Q E := by
  unfold ixT; dsimp only; rw [if_pos rfl, e]; exact ⟨q⟩
theorem wp_callL {i n : Nat} {fs : List (Str × (List MV → MH → MR MV))} {a : MLx} {x : Str} {mf : List MV → MH → MR MV} (e : l[i]? = some (some (.glo x))) (e2 : findF fs x = some mf) (o : okR (a l h) (fun xs h1 => xs.length = n ∧ okR (mf xs h1) Q E) E) : okR (mCallL i n fs a l h) Q E := by
  unfold mCallL; rw [e]; dsimp only; rw [e2]
  exact okR_bind (okR_mono o (fun _ _ q => by rw [if_pos q.1]; exact q.2) fun _ _ _ q => q)
end
end ML

set_option maxRecDepth 100000
set_option maxHeartbeats 4000000
/-! ML23: d.get(k, x). -/
namespace ML
open PySem PySem.Spec PyProof.Rows L2
section
variable {X : Cx} {W : WX} {pos : Pos}
/-- a dict with int and text keys -/
def isDK (h : MH) (x : MV) : Bool := match x with
  | .ref n => match h[n]? with
    | some (.dK _) => true
    | _ => false
  | _ => false
def getK (h : MH) (x y z : MV) : MR MV := match x with
  | .ref n => match h[n]?, keyM y with
    | some (.dK kvs), some k => .ok ((lookM kvs k).getD z) h
    | _, _ => .stuck
  | _ => .stuck
def mGet2 (a b c : MEx) : MEx := fun l h => (a l h).bind fun x h1 => if isDK h1 x then (b l h1).bind fun y h2 => (c l h2).bind fun z h3 => getK h3 x y z else .stuck
theorem isDK_ok {γ ι : List Addr} {H : Hp} {h : MH} (s : SimH X.K X.mg γ ι H h) {x : MV} {V : L2.V} (r : VR X.K X.mg γ ι H x V) (e : isDK h x = true) : ∃ a, V = .ref a ∧ IsD H a := by
  unfold isDK at e
  split at e
  · split at e
    · rename_i q
      cases r with
      | ref ea =>
        obtain ⟨w, hw, c⟩ := s.cell q ea
        cases c with
        | dK fr => exact ⟨_, rfl, .inl ⟨_, .inl hw⟩⟩
    · cases e
  · cases e
theorem me_get2 {o e f : Expr} {ma mb mc' : MEx} {apos : Pos} (hu : X.A.units + 1 < cLine) (ho : ME X W o ma) (he : ME X W e mb) (hf : ME X W f mc') (m : M2 X o "get" apos e f pos) : ME X W (.Call (.Attribute o "get" apos) [e, f] [] pos) (mGet2 ma mb mc') :=
  peW (pe_dget2 hu ho he hf m) fun σ H Q ⟨γ, ι, l, h, s, lr, p⟩ => ⟨γ, ι, l, h, s, lr, p.seq (rel := rV X) fun ι1 x h1 V H1 e1 ⟨s1, r1⟩ p1 => by
    split at p1
    · rename_i hd
      obtain ⟨a, rfl, d⟩ := isDK_ok s1 r1 hd
      refine ⟨a, rfl, d, γ, ι1, l, h1, s1, lr.mono (e1.grow s), p1.seq (rel := rV X) fun ι2 y h2 V2 H2 e2 ⟨s2, r2⟩ p2 => ⟨γ, ι2, l, h2, s2, (lr.mono (e1.grow s)).mono (e2.grow s1), p2.seq (rel := rV X) fun ι3 z h3 V3 H3 e3 ⟨s3, r3⟩ p3 => ?_⟩⟩
      have q1 := (r1.mono (e2.grow s1)).mono (e3.grow s2)
      have q2 := r2.mono (e3.grow s2)
      unfold getK at p3
      split at p3
      · split at p3
        · rename_i kvs k c1 c2
          cases q1 with
          | ref ea =>
            obtain ⟨w, hw, c⟩ := s3.cell c1 ea
            cases c with
            | dK fr =>
              have := q2.key c2
              subst this
              refine ⟨_, DGet.k hw, ?_⟩
              rcases fr.val k with ⟨g1, g2⟩ | ⟨u, v, g1, g2, g3⟩
              · rw [g1] at p3; rw [g2]; exact p3.ok ⟨s3, r3⟩
              · rw [g1] at p3; rw [g2]; exact p3.ok ⟨s3, g3⟩
        · exact p3.elim
      · exact p3.elim
    · exact p1.elim⟩
end
end ML
namespace ML
open PySem PySem.Spec PyProof.Rows L2
theorem u1 {k : Nat} {A : Around} (r : Room k A) : A.units + 1 < cLine := by have := u100 r; omega
section
variable {l : Loc} {h : MH} {E : PE'} {Q : MV → MH → Prop}
theorem wp_get2 {a b c : MEx} (o : okR (a l h) (fun x h1 => isDK h1 x = true ∧ okR (b l h1) (fun y h2 => okR (c l h2) (fun z h3 => okR (getK h3 x y z) Q E) E) E) E) : okR (mGet2 a b c l h) Q E :=
  okR_bind (okR_mono o (fun _ _ q => by rw [if_pos q.1]; exact okR_bind (okR_mono q.2 (fun _ _ q => okR_bind q) fun _ _ _ q => q)) fun _ _ _ q => q)
theorem wp_getK {n : Nat} {kvs : List (Key × MV)} {k : Key} {y z : MV} (e : h[n]? = some (.dK kvs)) (e2 : keyM y = some k) (q : Q ((lookM kvs k).getD z) h) : okR (getK h (.ref n) y z) Q E := by
  unfold getK; dsimp only; rw [e, e2]; exact ⟨q⟩
end
end ML

set_option maxRecDepth 100000
set_option maxHeartbeats 4000000
/-! ML24: x == (), whatever stands in x. -/
namespace ML
open PySem PySem.Spec PyProof.Rows L2
def eqNilO : MOp := fun x y h => match x, y with
  | .tup xs, .tup [] => .ok (.bl xs.isEmpty) h
  | _, _ => .stuck
theorem nx_eqNil (x y h) : NoX (eqNilO x y h) := by unfold eqNilO; split; exact nx_ok; exact nx_stuck
theorem u0 {k : Nat} {A : Around} (r : Room k A) : A.units < cLine := by have := u100 r; omega
section
variable {X : Cx}
theorem om_eqNil (hu : X.A.units < cLine) : OpM X (compareOp .Eq) eqNilO := by
  rintro pins s σ H V1 V2 v u Q I r1 r2 ⟨γ, ι, h, x, y, sm, q1, q2, p⟩
  unfold eqNilO at p
  split at p
  · rename_i xs
    obtain ⟨a, vs, rfl, ta, rvs⟩ := q1.tupS
    obtain ⟨b, us, rfl, tb, rus⟩ := q2.tupS
    cases rus
    cases (show v = Value.ref a from r1)
    cases (show u = Value.ref b from r2)
    obtain ⟨its, e1, p1, _⟩ := I.tuple ta
    obtain ⟨its2, e2, p2, _⟩ := I.tuple tb
    cases e2
    have e : ((List.range (min its.toArray.size ([] : List Value).toArray.size)).all (fun _ => true) && its.toArray.size == ([] : List Value).toArray.size) = xs.isEmpty := by
      have h1 := e1.length
      have h2 := rvs.length
      cases xs with
      | nil => cases its with
        | nil => rfl
        | cons i its => rw [List.length_cons] at h1; rw [List.length_nil] at h2; omega
      | cons x xs => cases its with
        | nil => rw [List.length_nil] at h1; rw [List.length_cons] at h2; omega
        | cons i its => simp
    refine SeqAt.rcIn_tuples p1 p2 hu (e := fun _ => true) (fun j h1 h2 => absurd h2 (by simp)) ?_
    rw [e]
    exact ⟨.bl _, H, I, rfl, p.ok ⟨sm, .bl _⟩⟩
  · exact p.elim
end
section
variable {h : MH} {E : PE'} {Q : MV → MH → Prop}
theorem wp_eqNil0 (q : Q (.bl true) h) : okR (eqNilO (.tup []) (.tup []) h) Q E := ⟨q⟩
theorem wp_eqNil1 {x : MV} {xs : List MV} (q : Q (.bl false) h) : okR (eqNilO (.tup (x :: xs)) (.tup []) h) Q E := ⟨q⟩
end
end ML

set_option maxRecDepth 100000
set_option maxHeartbeats 4000000
/-! ML25: a comprehension over a cell's list, which stays as it is meanwhile. -/
namespace ML
open PySem PySem.Spec PyProof.Rows L2
open Classical in
noncomputable def lcGoC (t : Tg) (c : MBx) (e : MEx) (n : Nat) (all : List MV) : List MV → List MV → Loc → MH → MR (List MV)
  | [], acc, _, h => if isL h n all then .ok acc h else .stuck
  | x :: xs, acc, l, h => if isL h n all then match t.set x l with
    | none => .stuck
    | some l' => (c l' h).bind fun k h1 => if k then (e l' h1).bind fun v h2 => if acc.length < 16777216 then lcGoC t c e n all xs (acc ++ [v]) l h2 else .stuck else lcGoC t c e n all xs acc l h1
    else .stuck
noncomputable def mLCC (t : Tg) (own : List Nat) (it : Loc → MH → MR Nat) (c : MBx) (e : MEx) : MLx := fun l h => (it l h).bind fun n h1 => match h1[n]? with
  | some (.lst xs) => (lcGoC t c e n xs xs [] (wipeL l own) h1).noX
  | some (.frz (.lst xs)) => (lcGoC t c e n xs xs [] (wipeL l own) h1).noX
  | _ => .stuck
section
variable {X : Cx} {W : WX} {pos : Pos}
theorem lcC_tm {own : List (Str × Nat)} {t : Tg} {mi : Loc → MH → MR Nat} {mt : MBx} {me : MEx} {σ : L2.St} {H : Hp} {Q : VK} (htw : t.within (own.map (·.2)) = true) (h0 : TM X W (rL X) (mLCC t (own.map (·.2)) mi mt me) σ H Q) :
    tLc (TM X W (rC X) mi) (gM X t) (TM X W0 (rB X) mt) (TM X W0 (rV X) me) (own.map (·.2)) σ H Q := by
  obtain ⟨γ, ι, l, h, s, lr, p⟩ := h0
  generalize own.map (·.2) = vs at *
  refine ⟨γ, ι, l, h, s, lr, p.seq (rel := rC X) fun ι1 n h1 J H1 e1 ⟨s1, a, ea, eJ⟩ p0 D hD => ?_⟩
  subst eJ
  have lr1 := lr.mono (e1.grow s)
  have hDg : D ∉ γ := s1.not_g hD
  obtain ⟨sD, eD, gD⟩ := s1.layG (vs := []) hD
  obtain ⟨xs, il1, p1⟩ : ∃ xs, isL h1 n xs ∧ Post X W (rL X) γ σ (lcGoC t mt me n xs xs [] (wipeL l vs) h1).noX ι1 H1 Q := by
    split at p0
    · rename_i xs q; exact ⟨xs, .inl q, p0⟩
    · rename_i xs q; exact ⟨xs, .inr q, p0⟩
    · exact p0.elim
  refine ⟨fun i m H' => m = xs.length - i ∧ i ≤ xs.length ∧ ∃ ι' h' acc ws, Ext ι1 H1 ι' H' ∧ SimH X.K X.mg (D :: γ) ι' H' h' ∧ H' D = some (.lst ws) ∧ VRs X.K X.mg (D :: γ) ι' H' acc ws ∧ Grow γ ι1 H1 (D :: γ) ι' H' ∧ Post X W (rL X) γ σ (lcGoC t mt me n xs (xs.drop i) acc (wipeL l vs) h').noX ι1 H1 Q, ⟨xs.length, rfl, Nat.zero_le _, ?_⟩, ?_⟩
  · exact ⟨ι1, h1, [], [], eD, sD, upd_same, .nil, gD, p1⟩
  rintro i m H' ⟨rfl, hi, ι', h', acc, ws, e', s', hDw, ra, gr, p'⟩
  have ea' : ι'[n]? = some a := gr.get ea
  by_cases hlt : i < xs.length
  · rw [List.drop_eq_getElem_cons hlt] at p'
    unfold lcGoC at p'
    by_cases il : isL h' n xs
    · rw [if_pos il] at p'
      obtain ⟨us, hus, rus⟩ := s'.listR il ea'
      obtain ⟨V0, hV0, rV0⟩ := rus.get (List.getElem?_eq_getElem hlt)
      cases q : t.set xs[i] (wipeL l vs) with
      | none => rw [q] at p'; exact p'.elim
      | some l2 =>
        rw [q] at p'
        dsimp only at p'
        refine .inr ⟨⟨us, V0, .inl hus, hV0⟩, fun H2 => ∃ ι' h' acc ws, Ext ι1 H1 ι' H2 ∧ SimH X.K X.mg (D :: γ) ι' H2 h' ∧ H2 D = some (.lst ws) ∧ VRs X.K X.mg (D :: γ) ι' H2 acc ws ∧ Grow γ ι1 H1 (D :: γ) ι' H2 ∧ Post X W (rL X) γ σ (lcGoC t mt me n xs (xs.drop (i + 1)) acc (wipeL l vs) h').noX ι1 H1 Q,
          fun H2 z => ⟨xs.length - (i + 1), by omega, rfl, hlt, z⟩, fun V H2 y => ?_⟩
        obtain ⟨rfl, y⟩ := y
        have eV : V0 = V := Option.some.inj (hV0.symm.trans (y us (.inl hus)))
        subst eV
        have hDi := (s'.2.2.2 D List.mem_cons_self).1
        refine ⟨D :: γ, ι', wipeL l vs, xs[i], l2, (lr1.mono gr).wipe vs, rV0, q, fun σ2 lr2 hj hl => ⟨?_, D :: γ, ι', l2, h', s', lr2, ?_⟩⟩
        · rw [← wipe_idem (σ := σ)]
          refine wipe_eq hl fun j hjv => hj j (fun i e z => ?_) (fun is e z => ?_)
          · subst e; subst z; exact hjv (of_decide_eq_true htw)
          · subst e; exact hjv (of_decide_eq_true (List.all_eq_true.mp htw j z))
        cases ec : mt l2 h' with
        | exn c fs h3 => rw [ec] at p'; exact p'.elim
        | stuck => rw [ec] at p'; exact p'.elim
        | ok k h3 =>
          rw [ec] at p'
          simp only [MR.bind_ok] at p'
          rintro ι3 b H3 e3 ⟨s3, rb⟩
          cases rb
          have hD3 := e3.keep D _ hDw hDi
          have hDi3 := (s3.2.2.2 D List.mem_cons_self).1
          have ra3 := ra.mono (e3.grow s')
          have gr3 := gr.trans (e3.grow s')
          cases k with
          | false => exact ⟨ι3, h3, acc, ws, e'.trans e3, s3, hD3, ra3, gr3, p'⟩
          | true =>
            simp only [if_true] at p' ⊢
            refine ⟨D :: γ, ι3, l2, h3, s3, lr2.mono (e3.grow s'), ?_⟩
            cases ee : me l2 h3 with
            | exn c fs h4 => rw [ee] at p'; exact p'.elim
            | stuck => rw [ee] at p'; exact p'.elim
            | ok v h4 =>
              rw [ee] at p'
              simp only [MR.bind_ok] at p'
              rintro ι4 V4 H4 e4 ⟨s4, r4⟩
              have hD4 := e4.keep D _ hD3 hDi3
              have ra4 := ra3.mono (e4.grow s3)
              by_cases ha : acc.length < 16777216
              · rw [if_pos ha] at p'
                obtain ⟨s5, g5⟩ := s4.off (vs := ws ++ [V4]) List.mem_cons_self
                exact ⟨ws, hD4, by rw [← ra4.length, sizeLine_eq]; exact ha, ι4, h4, acc ++ [v], ws ++ [V4], ((e'.trans e3).trans e4).off hD, s5, upd_same, (ra4.mono g5).append (.one (VR.mono g5 r4)), (gr3.trans (e4.grow s3)).trans g5, p'⟩
              · rw [if_neg ha] at p'; exact p'.elim
    · rw [if_neg il] at p'; exact p'.elim
  · have e : i = xs.length := by omega
    subst e
    rw [List.drop_length] at p'
    unfold lcGoC at p'
    by_cases il : isL h' n xs
    · rw [if_pos il] at p'
      obtain ⟨us, hus, rus⟩ := s'.listR il ea'
      exact .inl ⟨⟨us, .inl hus, by rw [← rus.length]; exact Nat.le_refl _⟩, p' ι' (.ref D) H' e' ⟨D, ws, rfl, s', hDw, hD, ra⟩⟩
    · rw [if_neg il] at p'; exact p'.elim
theorem ml_lcC {elt tg iter : Expr} {ifs : List Expr} {scope : Scope} {own : List (Str × Nat)} {t : Tg} {mi : Loc → MH → MR Nat} {mt : MBx} {me : MEx} (hc : X.calm = true) (hN : X.N.Nodup) (hi : MIC X W tg iter mi) (ok : BlkOk X.N X.env.scope scope own) (htw : t.within (own.map (·.2)) = true)
    (hg : ∀ (s : Shared) (H : Hp) (C : Addr) (cl : List (Str × Addr)) (fp : List Addr), MG (X.blk s H scope (compEnvC scope cl C X.env) fp) tg t)
    (ht : ∀ (s : Shared) (H : Hp) (C : Addr) (cl : List (Str × Addr)) (fp : List Addr), MTs (X.blk s H scope (compEnvC scope cl C X.env) fp) W0 ifs mt)
    (he : ∀ (s : Shared) (H : Hp) (C : Addr) (cl : List (Str × Addr)) (fp : List Addr), ME (X.blk s H scope (compEnvC scope cl C X.env) fp) W0 elt me) (hs : ∀ x, foldedSetIterable iter X.env x = pure x := by intro _; rfl) :
    MLs X W (.ListComp elt [⟨tg, iter, ifs, 0⟩] scope pos) (mLCC t (own.map (·.2)) mi mt me) :=
  peW (pe_lc (g := gM X t) (tt := TM X W0 (rB X) mt) (te := TM X W0 (rV X) me) hc hN hi ok hg ht he hs) fun σ H Q h => lcC_tm htw h
theorem ms_setLcC {i : Nat} {y : Str} {py spos : Pos} {elt tg iter : Expr} {ifs : List Expr} {scope : Scope} {own : List (Str × Nat)} {t : Tg} {mi : Loc → MH → MR Nat} {mt : MBx} {me : MEx} (k : MLx → MEx)
    (hk : ∀ (m : MLx) σ H Q, TM X W (rV X) (k m) σ H Q → TM X W (rL X) m σ H Q)
    (hc : X.calm = true) (hN : X.N.Nodup) (hi : MIC X W tg iter mi) (ok : BlkOk X.N X.env.scope scope own) (htw : t.within (own.map (·.2)) = true)
    (hg : ∀ (s : Shared) (H : Hp) (C : Addr) (cl : List (Str × Addr)) (fp : List Addr), MG (X.blk s H scope (compEnvC scope cl C X.env) fp) tg t)
    (ht : ∀ (s : Shared) (H : Hp) (C : Addr) (cl : List (Str × Addr)) (fp : List Addr), MTs (X.blk s H scope (compEnvC scope cl C X.env) fp) W0 ifs mt)
    (he : ∀ (s : Shared) (H : Hp) (C : Addr) (cl : List (Str × Addr)) (fp : List Addr), ME (X.blk s H scope (compEnvC scope cl C X.env) fp) W0 elt me)
    (hy : X.N[i]? = some y := by rfl) (hyl : X.env.scope.names.lookup y = some .local := by rfl)
    (hsw : swapsWith (.ListComp elt [⟨tg, iter, ifs, 0⟩] scope pos) (some (.Name y py)) spos.line X.env = pure true := by exact sw_true rfl rfl rfl (by decide +kernel)) (hs : ∀ x, foldedSetIterable iter X.env x = pure x := by intro _; rfl) :
    MSj X W (.Assign [.Name y py] (.ListComp elt [⟨tg, iter, ifs, 0⟩] scope pos) spos) (mSet i (k (mLCC t (own.map (·.2)) mi mt me))) :=
  psW (ps_setLc (g := gM X t) (tt := TM X W0 (rB X) mt) (te := TM X W0 (rV X) me) hc hN hy hyl hsw hi ok hg ht he hs) fun D σ H ⟨γ, ι, l, h, s, lr, p⟩ =>
    lcC_tm htw (hk _ σ H _ ⟨γ, ι, l, h, s, lr, PostS.run (rel := rV X) s lr p fun ι1 v h1 b H1 e1 lr1 ⟨s1, r1⟩ p1 => p1 ι1 _ H1 (.refl _ _) s1 (lr1.set r1 i)⟩)
end
section
variable {l : Loc} {h : MH} {E : PE'} {QL : List MV → MH → Prop} {t : Tg} {c : MBx} {e : MEx}
theorem lcGoC_eq {n : Nat} {all : List MV} (he : isL h n all) (hc : ∀ x ∈ all, ∀ l', t.set x l = some l' → ∃ k, c l' h = .ok k h) (hv : ∀ x ∈ all, ∀ l', t.set x l = some l' → ∃ v, e l' h = .ok v h) :
    ∀ {xs acc : List MV}, (∀ x ∈ xs, x ∈ all) → lcGoC t c e n all xs acc l h = lcGo t c e xs acc l h
  | [], acc, _ => by unfold lcGoC lcGo; rw [if_pos he]
  | x :: xs, acc, hx => by
    have hm := hx x List.mem_cons_self
    have ih := fun acc => lcGoC_eq he hc hv (xs := xs) (acc := acc) fun y hy => hx y (List.mem_cons_of_mem _ hy)
    unfold lcGoC lcGo
    rw [if_pos he]
    cases q : t.set x l with
    | none => rfl
    | some l' =>
      dsimp only
      obtain ⟨k, ek⟩ := hc x hm l' q
      obtain ⟨v, ev⟩ := hv x hm l' q
      rw [ek]
      simp only [MR.bind_ok]
      rw [ev]
      simp only [MR.bind_ok, ih]
/-- a comprehension without `if` over a cell's list, each item by itself, nothing changed -/
theorem wp_LCC0 {own : List Nat} {it : Loc → MH → MR Nat} (o : okR (it l h) (fun n h1 => ∃ xs f, h1[n]? = some (.lst xs) ∧ xs.length ≤ 16777216 ∧ (∀ y ∈ xs, ∃ L, t.set y (wipeL l own) = some L ∧ okR (e L h1) (fun v h' => v = f y ∧ h' = h1) noE) ∧ QL (xs.map f) h1) E) : okR (mLCC t own it mYes e l h) QL E := by
  refine okR_bind (okR_mono o ?_ fun _ _ _ q => q)
  rintro n h1 ⟨xs, f, e1, hl, hs, q⟩
  rw [e1]
  dsimp only
  have hv : ∀ x ∈ xs, ∃ L, t.set x (wipeL l own) = some L ∧ e L h1 = .ok (f x) h1 := fun x hx => by
    obtain ⟨L, e2, o2⟩ := hs x hx
    obtain ⟨a, h2, e3, rfl, rfl⟩ := okR_iff.mp o2
    exact ⟨L, e2, e3⟩
  rw [lcGoC_eq (c := mYes) (.inl e1) (fun x hx l' q => ⟨true, rfl⟩) (fun x hx l' q => by obtain ⟨L, e2, e3⟩ := hv x hx; rw [e2] at q; cases q; exact ⟨_, e3⟩) (fun x hx => hx)]
  have := wp_lc0 (ys := xs) (g := id) (f := f) (t := t) (e := e) (l := wipeL l own) (h := h1) (E := noE) (QL := QL) (L := fun y => ((t.set y (wipeL l own)).getD []))
    (fun y hy => by obtain ⟨L, e2, _⟩ := hv y hy; show t.set y _ = _; rw [e2]; rfl) (fun y hy => by obtain ⟨L, e2, e3⟩ := hv y hy; rw [e2]; dsimp only [Option.getD]; rw [e3]; exact ⟨rfl, rfl⟩) hl q
  rw [List.map_id] at this
  obtain ⟨a, h2, e3, q3⟩ := okR_iff.mp this
  rw [e3]
  exact ⟨q3⟩
end
end ML
namespace ML
theorem end_get {α : Type} (h : List α) (a : α) (s : List α) : (h ++ a :: s)[h.length]? = some a := by
  rw [List.getElem?_append_right (by omega)]; simp
theorem end_get1 {α : Type} (h : List α) (a b : α) (s : List α) : (h ++ a :: b :: s)[h.length + 1]? = some b := by
  rw [List.getElem?_append_right (by omega)]; simp
theorem end_get2 {α : Type} (h : List α) (a b c : α) (s : List α) : (h ++ a :: b :: c :: s)[h.length + 1 + 1]? = some c := by
  rw [List.getElem?_append_right (by omega), show h.length + 1 + 1 - h.length = 2 by omega]; rfl
theorem end_set {α : Type} (h : List α) (a : α) (s : List α) (v : α) : (h ++ a :: s).set h.length v = h ++ v :: s := by
  rw [List.set_append_right _ _ (by omega)]; simp
theorem end_set1 {α : Type} (h : List α) (a b : α) (s : List α) (v : α) : (h ++ a :: b :: s).set (h.length + 1) v = h ++ a :: v :: s := by
  rw [List.set_append_right _ _ (by omega)]; simp
theorem end_set2 {α : Type} (h : List α) (a b c : α) (s : List α) (v : α) : (h ++ a :: b :: c :: s).set (h.length + 1 + 1) v = h ++ a :: b :: v :: s := by
  rw [List.set_append_right _ _ (by omega), show h.length + 1 + 1 - h.length = 2 by omega]; rfl
end ML

set_option maxRecDepth 100000
set_option maxHeartbeats 4000000
/-! ML26: exceptions made as values. -/
namespace ML
open PySem PySem.Spec PyProof.Rows L2
section
variable {X : Cx} {W : WX} {pos : Pos}
/-- what is made to be raised may be kept -/
theorem pe_mk {e : Expr} {t : L2.St → Hp → XK → Prop} (he : PMk X e t) : PE X e (fun σ H Q => t σ H fun cls d H' => ∀ a, H' a = none → Q (.ref a) (upd H' a (.ext (ExP cls d a)))) := by
  refine ⟨fun pins s σ H Q I h => ?_⟩
  refine wpAny_mono (he pins s σ H _ I h) (fun u s1 hu => ?_) fun _ _ x => x
  obtain ⟨a, oe, vs, sI, H', cls, d, rfl, J, k, hne, ha, hz, hd, h1, na, os, ag, r, q⟩ := hu
  have J1 : L2.Inv X pins σ (upd H' a (.ext (ExP cls d a))) { sI with heap := s1.heap, toks := s1.toks } :=
    J.laidN k hne na ⟨⟨oe, vs, ha, hz, hd⟩, ⟨oe, ha⟩, fun h1 h2 ⟨o1, v1, q1, z1, d1⟩ k => ⟨o1, v1, k o1 q1, z1, d1⟩⟩
  exact ⟨.ref a, _, ⟨J1.ok, by rw [os]; exact J1.os, ag, J1.base, J1.loc, J1.cell, J1.free, J1.freeC, J1.pin, J1.hok, J1.len⟩, rfl, q a na⟩
theorem pmk_own1 {C : Addr} {bmB : List Value} {B newId initId : String} {x : Str} {e : Expr} {ta : TE} {p : Pos} (F : ExcBaseFacts B newId initId bmB) (q : PySem.W.excIn X.K C bmB newId = true) (gC : X.mg x = some (.ref C)) (kC : PySem.W.keepIn X.K (.ref C) = true) (r : Raises X (.ref C)) (hg : Gl X x)
    (he : PE X e ta) (hs : starEach [e] X.env = (false, eval e X.env) :: starEach [] X.env := by rfl) (hdb : (x == ("__debug__" : Str)) = false := by decide) :
    PMk X (.Call (.Name x p) [e] [] pos) (fun σ H Q => ta σ H fun _ H1 => Q (.ref C) none H1) := by
  intro pins s σ H Q I h
  refine wpAny_Call_Name_kw (ld_glob I hg gC ?_ hdb)
  refine PySem.W.callWith_K (h₀ := X.base) I.ok.mod.kin kC ?_ hs (by rfl)
  rw [hs]
  refine Calls.spliced_cons (thn (PE.run he pins s σ H _ I h) fun u s1 ⟨v, H1, I1, _, q1⟩ => ?_)
  refine Calls.spliced_nil ⟨I1.kIn, ?_⟩
  obtain ⟨bm, N, nm, qn, bs, hdct, sn, sub, ab, col, dd, k0, k1, k2, k3, k5, mN, hC, hN, hni, T⟩ := exc_obj I1.kIn q
  show wpAny _ _ (call (.ref C) [u]) _ _ _
  refine wpAny_call_exc_subT F T hC hN hni (fun h' a hm => ?_) (by rw [sizeLine_eq]; exact (by decide : (1 : Nat) ≤ 16777216))
  exact mk_of I1 hm r q1 (I1.hok.gone hm.new)
/-- an exception's object, its text forgotten -/
def mNewX (c : Str) (e : MEx) : MEx := fun l h => (e l h).bind fun _ h1 => .ok (.ref h1.length) (h1 ++ [.exc c []])
def mNewX1 (c f : Str) (e : MEx) : MEx := fun l h => (e l h).bind fun v h1 => .ok (.ref h1.length) (h1 ++ [.exc c [(f, v)]])
theorem me_newX {x : Str} {e : Expr} {m : MEx} {p : Pos} (F : XcF X.K X.mg x) (he : ME X W e m) (hg : Gl X x := by rfl) (hdb : (x == ("__debug__" : Str)) = false := by decide) (hs : starEach [e] X.env = (false, eval e X.env) :: starEach [] X.env := by rfl) :
    ME X W (.Call (.Name x p) [e] [] pos) (mNewX x m) := by
  obtain ⟨C, gC, q, kC, s1, s2⟩ := F.ex
  refine peW (pe_mk (pmk_own1 PySem.F.excBase_ValueError q gC kC (raises_own s1 s2) hg he hs hdb)) fun σ H Q ⟨γ, ι, l, h, s, lr, p⟩ => ⟨γ, ι, l, h, s, lr, p.seq (rel := rV X) fun ι1 v h1 b H1 e1 ⟨s1, r1⟩ p1 a ha => ?_⟩
  obtain ⟨s3, e3, hl⟩ := s1.alloc (o := .exc x []) (w := .ext (ExP (.ref C) none a)) ha (.exc0 gC)
  exact p1.okE e3 ⟨s3, .ref hl⟩
theorem me_newX1 {x f : Str} {e : Expr} {m : MEx} {k : Nat} {p : Pos} (F : XiF X.prog X.w X.K X.mg X.base x f k) (hr : Room (k + 1) X.A) (he : ME X W e m) (hg : Gl X x := by rfl) (hdb : (x == ("__debug__" : Str)) = false := by decide)
    (hs : starEach [e] X.env = (false, eval e X.env) :: starEach [] X.env := by rfl) (hpl : (backTo pos (starEach [] X.env)).any (·.1) = false := by rfl) :
    ME X W (.Call (.Name x p) [e] [] pos) (mNewX1 x f m) := by
  obtain ⟨C, fI, fd, ps, gC, T, iC, tI, hb, ok⟩ := F.ex
  refine peW (pe_mk (pmk_oex T iC tI ok hr hb .nil pass_no hg gC (pa_cons he pa_nil hs) hdb hs hpl)) fun σ H Q ⟨γ, ι, l, h, s, lr, p⟩ => ⟨γ, ι, l, h, s, lr, p.seq (rel := rV X) fun ι1 v h1 b H1 e1 ⟨s1, r1⟩ p1 => ?_⟩
  refine ⟨by show 1 ≤ 1000; omega, fun a ha => ⟨a, b, rfl, upd_same, fun d hd hda => ⟨rfl, d, [(f, b)], upd_same, by rw [upd_ne hda, upd_same], by rw [upd_ne hda] at hd; exact hd, ?_⟩⟩⟩
  rw [upd_ne hda] at hd
  have e : upd (del (upd (upd (upd H1 a (exo a C none)) d (exd d [(f, b)])) a (exo a C (some d))) a) d (.xd [(f, b)]) = upd H1 d (.xd [(f, b)]) := by
    funext z
    by_cases q1 : z = d
    · rw [q1, upd_same, upd_same]
    · rw [upd_ne q1, upd_ne q1]
      by_cases q2 : z = a
      · rw [q2, del_same, ha]
      · rw [del_ne q2, upd_ne q2, upd_ne q1, upd_ne q2]
  rw [e]
  intro a2 ha2
  obtain ⟨s2, e2⟩ := s1.lay (w := .xd [(f, b)]) hd
  have hdi : d ∉ ι1 := fun hm => by
    obtain ⟨n, hn, en⟩ := List.getElem_of_mem hm
    obtain ⟨w, hw, _⟩ := s1.2.2.1 n (h1[n]'(by rw [← s1.1]; exact hn)) d (List.getElem?_eq_getElem _) (by rw [List.getElem?_eq_getElem hn, en])
    rw [hd] at hw; cases hw
  have xr : XR X.K X.mg γ ι1 (upd H1 d (.xd [(f, b)])) x [(f, v)] (.ref C) (some d) := .flds gC upd_same hdi (.cons (r1.mono (e2.grow s1)) .nil)
  obtain ⟨s3, e3, hl⟩ := s2.alloc (o := .exc x [(f, v)]) (w := .ext (ExP (.ref C) (some d) a2)) ha2 (xr.cell s2 a2)
  exact p1.okE (e2.trans e3) ⟨s3, .ref hl⟩
end
section
variable {l : Loc} {h : MH} {E : PE'} {Q : MV → MH → Prop}
theorem wp_newX {c : Str} {e : MEx} (o : okR (e l h) (fun _ h1 => Q (.ref h1.length) (h1 ++ [.exc c []])) E) : okR (mNewX c e l h) Q E := okR_bind (okR_mono o (fun _ _ q => ⟨q⟩) fun _ _ _ q => q)
theorem wp_newX1 {c f : Str} {e : MEx} (o : okR (e l h) (fun v h1 => Q (.ref h1.length) (h1 ++ [.exc c [(f, v)]])) E) : okR (mNewX1 c f e l h) Q E := okR_bind (okR_mono o (fun _ _ q => ⟨q⟩) fun _ _ _ q => q)
/-- isinstance of one class that has no own subclass -/
theorem wp_isX1 {c x : Str} {no : List Str} {fs : List (Str × MV)} {n : Nat} (e : h[n]? = some (.exc c fs)) (hc : c = x ∨ c ∈ no) (q : Q (.bl (decide (c = x))) h) : okR (isX [x] no (.ref n) h) Q E := by
  by_cases e1 : c = x
  · rw [decide_eq_true e1] at q
    exact wp_isXy e (by rw [e1]; exact List.mem_singleton.mpr rfl) q
  · rw [decide_eq_false e1] at q
    exact wp_isXf e (fun z => e1 (List.mem_singleton.mp z)) (hc.resolve_left e1) q
end
end ML

set_option maxRecDepth 100000
set_option maxHeartbeats 4000000
/-! ML27: a[i] op= e for whole numbers in a cell's list; x op= e. -/
namespace ML
open PySem PySem.Spec PyProof.Rows L2
section
variable {X : Cx} {W : WX} {pos : Pos}
def rGetL (K : PySem.W.Frag) : V → V → Hp → VK → Prop := fun o i H Q => ∃ p xs k v, o = .ref p ∧ i = .int k ∧ SqL K H p xs ∧ 0 ≤ k ∧ L2.atI xs k = some v ∧ Q v H
theorem get_list : PGet X (rGetL X.K) := by
  intro pins s σ H o i ov iv Q I ro ri ⟨p, xs, k, z, e1, e2, hq, h0, he, q⟩
  subst e1 e2
  cases ro
  obtain ⟨t, rfl⟩ := ri
  obtain ⟨its, r, pl, hz⟩ := I.list hq
  obtain ⟨j, h1, h2, h3, h4, h5⟩ := atI_get he
  obtain ⟨w, ew, rw'⟩ := r.get h2
  have hl := r.length
  have hn := line63
  have hj : k.toNat = j := by
    rw [seqIndex_of h0 h5] at h1
    exact Option.some.inj h1
  exact wpAny_getItem_list pl.isList h0 (by omega) (by rw [hj]; simpa using ew) ⟨z, H, I, rw', q⟩
def getL : MOp := fun x y h => match x, y with
  | .ref n, .int i => match h[n]? with
    | some (.lst xs) => if 0 ≤ i then match L2.atI xs i with
      | some v => .ok v h
      | none => .stuck else .stuck
    | _ => .stuck
  | _, _ => .stuck
def mAugIx (f : Int → Int → Int) (a b e : MEx) : MSt := fun l h => (a l h).toS l fun o h1 => (b l h1).toS l fun i h2 => (getL o i h2).toS l fun x h3 => (e l h3).toS l fun y h4 => match x, y with
  | .int u, .int v => (setO o i (.int (f u v)) h4).toS l fun _ h5 => .nx l h5
  | _, _ => .stuck
theorem ms_augIx {a b e : Expr} {ma mb me' : MEx} {op : Operator} {f : Int → Int → Int} {tpos : Pos} (hp : PIp X op (ipI f)) (ha : ME X W a ma) (hb : ME X W b mb) (he : ME X W e me')
    (hg : ∀ ov iv new, augStore b ov iv new = (do holding [new, ov, iv] (setItem ov iv new); release [new, ov, iv] []; pure .next) := by intros; rfl) : MSj X W (.AugAssign (.Subscript a b tpos) op e pos) (mAugIx f ma mb me') :=
  psW (ps_augS ha hb get_list he hp set_list hg) fun D σ H ⟨γ, ι, l, h, s, lr, p⟩ => ⟨γ, ι, l, h, s, lr, PostS.run (rel := rV X) s lr p fun ι1 o h1 V1 H1 e1 lr1 ⟨s1, r1⟩ p1 =>
    ⟨γ, ι1, l, h1, s1, lr1, PostS.run (rel := rV X) s1 lr1 p1 fun ι2 i h2 V2 H2 e2 lr2 ⟨s2, r2⟩ p2 => by
      have r1' := r1.mono (e2.grow s1)
      unfold getL at p2
      split at p2
      · split at p2
        · rename_i xs q
          split at p2
          · rename_i h0
            split at p2
            · rename_i v hv
              cases r2
              obtain ⟨d, vs, rfl, ed, hw, ra⟩ := s2.lst r1' q
              obtain ⟨V3, ev, rv⟩ := ra.atI hv
              refine ⟨d, vs, _, V3, rfl, rfl, .of hw, h0, ev, ⟨γ, ι2, l, h2, s2, lr2, PostS.run (rel := rV X) (r := me' l h2) s2 lr2 p2 fun ι4 y h4 V4 H4 e4 lr4 ⟨s4, r4⟩ p4 => ?_⟩⟩
              have rv' := rv.mono (e4.grow s2)
              have r1'' := r1'.mono (e4.grow s2)
              split at p4
              · cases rv'; cases r4
                refine ⟨_, _, rfl, rfl, ?_⟩
                unfold setO at p4
                dsimp only at p4
                split at p4
                · rename_i xs2 q2
                  split at p4
                  · rename_i j hj
                    obtain ⟨d2, ws, ed2, ed3, hw2, ra2⟩ := s4.lst r1'' q2
                    cases ed2
                    rw [ra2.length] at hj
                    obtain ⟨s5, e5⟩ := s4.put (w := .lst (ws.set j (V.int _))) ed3 (.lst (ra2.set j (.int _)))
                    have e5 := e5 (fun o w z => by simp_all)
                    exact ⟨d, ws, _, j, rfl, rfl, hw2, hj, p4 ι4 _ _ e5 s5 (lr4.mono (e5.grow s4))⟩
                  · exact p4.elim
                · exact p4.elim
              · exact p4.elim
            · exact p2.elim
          · exact p2.elim
        · exact p2.elim
      · exact p2.elim⟩⟩
end
section
variable {l : Loc} {h : MH} {N : Loc → MH → Prop} {P : Po} {Q : MV → MH → Prop} {E : PE'}
theorem wp_augIx {f : Int → Int → Int} {a b e : MEx} (o : okR (a l h) (fun o h1 => okR (b l h1) (fun i h2 => ∃ n k xs u, o = .ref n ∧ i = .int k ∧ h2[n]? = some (.lst xs) ∧ 0 ≤ k ∧ L2.atI xs k = some (.int u) ∧
    okR (e l h2) (fun y h4 => ∃ v ys j, y = .int v ∧ h4[n]? = some (.lst ys) ∧ ixN ys.length k = some j ∧ N l (h4.set n (.lst (ys.set j (.int (f u v)))))) fun c fs h => P.E c fs l h) fun c fs h => P.E c fs l h) fun c fs h => P.E c fs l h) : okS (mAugIx f a b e l h) N P := by
  refine okR_toS (okR_mono o ?_ fun _ _ _ q => q)
  intro x h1 o
  refine okR_toS (okR_mono o ?_ fun _ _ _ q => q)
  rintro y h2 ⟨n, k, xs, u, rfl, rfl, e1, h0, e2, o⟩
  have : getL (.ref n) (.int k) h2 = .ok (.int u) h2 := by unfold getL; dsimp only; rw [e1]; dsimp only; rw [if_pos h0, e2]
  rw [this]
  refine okR_toS (r := .ok (MV.int u) h2) ⟨?_⟩
  refine okR_toS (okR_mono o ?_ fun _ _ _ q => q)
  rintro z h4 ⟨v, ys, j, rfl, e3, e4, q⟩
  dsimp only
  have : setO (.ref n) (.int k) (.int (f u v)) h4 = .ok () (h4.set n (.lst (ys.set j (MV.int (f u v))))) := by unfold setO; dsimp only; rw [e3]; dsimp only; rw [e4]
  rw [this]
  exact okR_toS (r := .ok () _) ⟨⟨q⟩⟩
end
end ML
namespace ML
open PySem PySem.Spec PyProof.Rows L2
/-! a comprehension within a comprehension -/
def relabelS (S sc : Scope) : Scope := { S with names := S.names.map fun (n, k) => if (k == .free && sc.kind == .function && sc.names.lookup n == some .cell) then (n, .cell) else (n, k) }
theorem blk_deep {N : List Str} {S scope : Scope} {env : Env} {own : List (Str × Nat)} (sc : Scope) (he : env.scope = sc) (h : blkC N (relabelS S sc) scope own = true) : BlkOk N (relabel S env) scope own := by
  subst he
  exact blkOk_by h
end ML
namespace ML
theorem end_getK {α : Type} (h s : List α) (k : Nat) : (h ++ s)[h.length + k]? = s[k]? := by
  rw [List.getElem?_append_right (by omega), show h.length + k - h.length = k by omega]
theorem end_setK {α : Type} (h s : List α) (k : Nat) (v : α) : (h ++ s).set (h.length + k) v = h ++ s.set k v := by
  rw [List.set_append_right _ _ (by omega), show h.length + k - h.length = k by omega]
end ML

set_option maxRecDepth 100000
set_option maxHeartbeats 4000000
/-! ML28: dicts: d[k], d.get(k, x), d[k] = v, with tuples of numbers and texts as keys, too; walks of a dict. -/
namespace ML
open PySem PySem.Spec PyProof.Rows L2
/-! ### keys that are tuples -/
def keysM : List MV → Option (List Key)
  | [] => some []
  | x :: xs => match keyM x, keysM xs with
    | some k, some ks => some (k :: ks)
    | _, _ => none
theorem VRs.keys {K : PySem.W.Frag} {mg : Str → Option Value} {γ ι : List Addr} {H : Hp} : ∀ {xs : List MV} {vs : List V} {ks : List Key}, VRs K mg γ ι H xs vs → keysM xs = some ks → vs = ks.map kV
  | [], _, _, .nil, e => by cases e; rfl
  | x :: xs, _, _, .cons a b, e => by
    unfold keysM at e
    split at e
    · rename_i k ks e1 e2
      cases e
      rw [a.key e1, VRs.keys b e2]; rfl
    · cases e
def lookD (h : MH) (x y : MV) : Option (Option MV) := match x with
  | .ref n => match h[n]? with
    | some (.dK kvs) => (keyM y).map (lookM kvs)
    | some (.frz (.dK kvs)) => (keyM y).map (lookM kvs)
    | some (.dT kvs) => match y with
      | .tup ks => (keysM ks).map (lookM kvs)
      | _ => none
    | some (.frz (.dT kvs)) => match y with
      | .tup ks => (keysM ks).map (lookM kvs)
      | _ => none
    | _ => none
  | _ => none
/-- d[y], as it stands in the abstract heap -/
def DGetS (K : PySem.W.Frag) (H : Hp) (a : Addr) (y : V) (r : Option V) : Prop :=
  (∃ kvs k, Rd H a (.dK kvs) ∧ y = kV k ∧ r = valV kvs k) ∨ ∃ kvs k b, Rd H a (.dT kvs) ∧ y = .ref b ∧ SqT K H b (k.map kV) ∧ r = valV kvs k
def OR (K : PySem.W.Frag) (mg : Str → Option Value) (γ ι : List Addr) (H : Hp) (o : Option MV) (r : Option V) : Prop := (o = none ∧ r = none) ∨ ∃ x v, o = some x ∧ r = some v ∧ VR K mg γ ι H x v
theorem lookD_ok {K : PySem.W.Frag} {mg : Str → Option Value} {γ ι : List Addr} {H : Hp} {h : MH} (s : SimH K mg γ ι H h) {x y : MV} {V U : L2.V} (r1 : VR K mg γ ι H x V) (r2 : VR K mg γ ι H y U) {o : Option MV} (e : lookD h x y = some o) : ∃ a r, V = .ref a ∧ DGetS K H a U r ∧ OR K mg γ ι H o r := by
  have dk : ∀ {kvs : List (Key × MV)} {vs : List (Key × L2.V)} {a : Addr}, FR K mg γ ι H kvs vs → Rd H a (.dK vs) → (keyM y).map (lookM kvs) = some o → ∃ r, DGetS K H a U r ∧ OR K mg γ ι H o r := by
    intro kvs vs a fr rd em
    obtain ⟨k, e1, e2⟩ := Option.map_eq_some_iff.mp em
    have := r2.key e1
    subst this e2
    exact ⟨_, .inl ⟨vs, k, rd, rfl, rfl⟩, fr.val k⟩
  have dt : ∀ {kvs : List (List Key × MV)} {vs : List (List Key × L2.V)} {a : Addr} {ys : List MV}, y = .tup ys → FR K mg γ ι H kvs vs → Rd H a (.dT vs) → (keysM ys).map (lookM kvs) = some o → ∃ r, DGetS K H a U r ∧ OR K mg γ ι H o r := by
    intro kvs vs a ys ey fr rd em
    subst ey
    obtain ⟨k, e1, e2⟩ := Option.map_eq_some_iff.mp em
    obtain ⟨b, us, rfl, tb, ru⟩ := r2.tupS
    have := ru.keys e1
    subst this e2
    exact ⟨_, .inr ⟨vs, k, b, rd, rfl, tb, rfl⟩, fr.val k⟩
  unfold lookD at e
  split at e
  · cases r1 with
    | ref ea =>
      split at e
      · rename_i q
        obtain ⟨w, hw, c⟩ := s.cell q ea
        cases c with
        | dK fr => obtain ⟨r, g, p⟩ := dk fr (.inl hw) e; exact ⟨_, r, rfl, g, p⟩
      · rename_i q
        obtain ⟨w, hw, c⟩ := s.cell q ea
        cases c with
        | frz c => cases c with
          | dK fr => obtain ⟨r, g, p⟩ := dk fr (.inr ⟨_, hw⟩) e; exact ⟨_, r, rfl, g, p⟩
      · rename_i q
        split at e
        · obtain ⟨w, hw, c⟩ := s.cell q ea
          cases c with
          | dT fr => obtain ⟨r, g, p⟩ := dt rfl fr (.inl hw) e; exact ⟨_, r, rfl, g, p⟩
        · cases e
      · rename_i q
        split at e
        · obtain ⟨w, hw, c⟩ := s.cell q ea
          cases c with
          | frz c => cases c with
            | dT fr => obtain ⟨r, g, p⟩ := dt rfl fr (.inr ⟨_, hw⟩) e; exact ⟨_, r, rfl, g, p⟩
        · cases e
      · cases e
  · cases e
section
variable {X : Cx} {pins : List (Addr × Obj)} {σ : L2.St} {H : Hp} {s : Shared} {a : Addr} {y v d : V} {u r : Value} {o : Option V} {A : Around} {E : Value → Shared → Prop}
theorem keyS {ks : List Key} {b : Addr} (I : L2.Inv X pins σ H s) (e : SqT X.K H b (ks.map kV)) : (tupleKind (mixKind X.prog X.w)).is s.heap ks b := by
  obtain ⟨its, r, ⟨o, h1, h2, n, h3⟩, _⟩ := I.tuple e
  exact ⟨o, its.toArray, n, h1, h2, h3, by simpa using items_are r⟩
theorem dS_type (I : L2.Inv X pins σ H s) (g : DGetS X.K H a y o) : s.TypeIs (.ref a) "dict" := by
  rcases g with ⟨kvs, k, e, _, _⟩ | ⟨kvs, k, b, e, _, _, _⟩
  · exact (isD_at I (.inl ⟨_, e⟩)).1
  · exact (isD_at I (.inr ⟨_, e⟩)).1
theorem dS_getItem {Q : Value → Shared → Prop} (hu : A.units + 1 < cLine) (I : L2.Inv X pins σ H s) (g : DGetS X.K H a y (some v)) (ry : RelV y u) (h : ∀ w' s', L2.Inv X pins σ H s' → RelV v w' → Q w' s') : wpAny (model X.prog X.w) A (getItem (.ref a) u) Q E s := by
  rcases g with ⟨kvs, k, e, ey, l⟩ | ⟨kvs, k, b, e, ey, eb, l⟩
  · exact d_getItem hu I (.inl ⟨kvs, k, e, ey, l⟩) ry h
  · subst ey
    obtain rfl : u = Value.ref b := ry
    obtain ⟨_, _, xs, rel, dd⟩ := dt_rd I.hok e
    have rv := rel.val k
    rw [← l] at rv
    obtain ⟨w', hw, rw'⟩ := RelO.some_of rv
    obtain ⟨p, hp, hp2⟩ := Option.map_eq_some_iff.mp hw
    exact wpAny_getItem_heap (tupleKind_room_in1 hu) (keyS I eb) dd hp (by rw [hp2]; exact h w' _ (I.tok _) rw')
theorem dS_get2 {Q : Value → Shared → Prop} (hu : A.units + 1 < cLine) (I : L2.Inv X pins σ H s) (g : DGetS X.K H a y o) (ry : RelV y u) (rd : RelV d r) (h : ∀ w' s', L2.Inv X pins σ H s' → RelV (o.getD d) w' → Q w' s') :
    wpAny (model X.prog X.w) A (call (.builtin "dict.get") [.ref a, u, r]) Q E s := by
  rcases g with ⟨kvs, k, e, ey, l⟩ | ⟨kvs, k, b, e, ey, eb, l⟩
  · exact d_get2 hu I (.inl ⟨kvs, k, e, ey, l⟩) ry rd h
  · subst ey
    obtain rfl : u = Value.ref b := ry
    obtain ⟨_, hd, xs, rel, dd⟩ := dt_rd I.hok e
    have rv := (rel.val k).getD rd
    rw [← l] at rv
    exact call_meetsIn PySem.F.slot_dict_get dd.typeIs PySem.F.entry_dict_get (PySem.F.args_dict_get_3 _ _ _) (meetsH_dict_get_default (tupleKind (mixKind X.prog X.w)) a b hd r) ⟨tupleKind_room_in1 hu, k, xs, keyS I eb, dd, h _ _ (I.tok _) rv⟩
end
section
variable {X : Cx} {W : WX} {pos : Pos}
def ixDO : MOp := fun x y h => match lookD h x y with
  | some (some v) => .ok v h
  | _ => .stuck
def rDS (K : PySem.W.Frag) : R2 := fun x y H Q => ∃ a v, x = .ref a ∧ DGetS K H a y (some v) ∧ Q v H
theorem ix_dS (hu : X.A.units + 1 < cLine) : IxR X (rDS X.K) := by
  intro value slice pins s σ H x y v u Q I rx ry ⟨a, w, ex, g, q⟩ hs
  subst ex
  obtain rfl : v = Value.ref a := rx
  exact tail_any (dS_type I g) PySem.F.slot_dict_getitem.lookup (dS_getItem hu I g ry fun w' s' I' r' => ⟨w, H, I', r', q⟩) hs
theorem me_ixD {a b : Expr} {ma mb : MEx} (hu : X.A.units + 1 < cLine) (ha : ME X W a ma) (hb : ME X W b mb) (hs : PlainIx b := by exact fun _ _ => rfl) : ME X W (.Subscript a b pos) (mOp ixDO ma mb) :=
  peW (pe_ix (ix_dS hu) ha hb hs) fun σ H Q h => bin_of h fun γ ι h x y V1 V2 H s r1 r2 p => by
    unfold ixDO at p
    split at p
    · rename_i v e
      obtain ⟨a, r, rfl, g, o⟩ := lookD_ok s r1 r2 e
      rcases o with ⟨e1, _⟩ | ⟨x', v', e1, rfl, rv⟩
      · cases e1
      · cases e1
        exact ⟨a, v', rfl, g, p.ok ⟨s, rv⟩⟩
    · exact p.elim
def isDD (h : MH) (x : MV) : Bool := match x with
  | .ref n => match h[n]? with
    | some (.dK _) => true
    | some (.dT _) => true
    | some (.frz (.dK _)) => true
    | some (.frz (.dT _)) => true
    | _ => false
  | _ => false
theorem isDD_ok {γ ι : List Addr} {H : Hp} {h : MH} (s : SimH X.K X.mg γ ι H h) {x : MV} {V : L2.V} (r : VR X.K X.mg γ ι H x V) (e : isDD h x = true) : ∃ a, V = .ref a ∧ IsD H a := by
  unfold isDD at e
  split at e
  · cases r with
    | ref ea =>
      split at e <;> rename_i q
      · obtain ⟨w, hw, c⟩ := s.cell q ea
        cases c with
        | dK fr => exact ⟨_, rfl, .inl ⟨_, .inl hw⟩⟩
      · obtain ⟨w, hw, c⟩ := s.cell q ea
        cases c with
        | dT fr => exact ⟨_, rfl, .inr ⟨_, .inl hw⟩⟩
      · obtain ⟨w, hw, c⟩ := s.cell q ea
        cases c with
        | frz c => cases c with
          | dK fr => exact ⟨_, rfl, .inl ⟨_, .inr ⟨_, hw⟩⟩⟩
      · obtain ⟨w, hw, c⟩ := s.cell q ea
        cases c with
        | frz c => cases c with
          | dT fr => exact ⟨_, rfl, .inr ⟨_, .inr ⟨_, hw⟩⟩⟩
      · cases e
  · cases e
def tGetS (K : PySem.W.Frag) (td ty tx : TE) : TE := fun σ H Q => td σ H fun x H1 => ∃ a, x = .ref a ∧ IsD H1 a ∧ ty σ H1 fun y H2 => tx σ H2 fun z H3 => ∃ o, DGetS K H3 a y o ∧ Q (o.getD z) H3
theorem pe_getS {o e f : Expr} {td ty tx : TE} {apos : Pos} (hu : X.A.units + 1 < cLine) (ho : PE X o td) (he : PE X e ty) (hf : PE X f tx) (m : M2 X o "get" apos e f pos) : PE X (.Call (.Attribute o "get" apos) [e, f] [] pos) (tGetS X.K td ty tx) := by
  refine ⟨fun pins s σ H Q I h => ?_⟩
  refine wpAny_Call_method m.base m.few m.line PySem.F.plainAttrs_dict PySem.F.slot_dict_get PySem.F.type_dict_get (thn (PE.run ho pins s σ H _ I h) fun u s1 ⟨x, H1, I1, rx, a, ex, d, q1⟩ => ?_)
  subst ex
  obtain rfl : u = Value.ref a := rx
  have t := isD_at I1 d
  refine ⟨t.1, t.2.1, ?_⟩
  rw [m.trees]
  refine Calls.callWith_builtin rfl (Calls.evalArgs_plain (Calls.spliced_cons (thn (PE.run he pins s1 σ H1 _ I1 q1) fun iv s2 ⟨y, H2, I2, ry, q2⟩ => ?_)))
  refine Calls.spliced_cons (thn (PE.run hf pins s2 σ H2 _ I2 q2) fun fv s3 ⟨z, H3, I3, rz, ov, g, q3⟩ => Calls.spliced_nil ?_)
  exact dS_get2 hu I3 g ry rz fun w' s4 I4 rw' => ⟨_, H3, I4, rw', q3⟩
def mGetD (a b c : MEx) : MEx := fun l h => (a l h).bind fun x h1 => if isDD h1 x then (b l h1).bind fun y h2 => (c l h2).bind fun z h3 => (match lookD h3 x y with
  | some o => .ok (o.getD z) h3
  | none => .stuck) else .stuck
theorem me_getD {o e f : Expr} {ma mb mc' : MEx} {apos : Pos} (hu : X.A.units + 1 < cLine) (ho : ME X W o ma) (he : ME X W e mb) (hf : ME X W f mc') (m : M2 X o "get" apos e f pos) : ME X W (.Call (.Attribute o "get" apos) [e, f] [] pos) (mGetD ma mb mc') :=
  peW (pe_getS hu ho he hf m) fun σ H Q ⟨γ, ι, l, h, s, lr, p⟩ => ⟨γ, ι, l, h, s, lr, p.seq (rel := rV X) fun ι1 x h1 V H1 e1 ⟨s1, r1⟩ p1 => by
    split at p1
    · rename_i hd
      obtain ⟨a, rfl, d⟩ := isDD_ok s1 r1 hd
      refine ⟨a, rfl, d, γ, ι1, l, h1, s1, lr.mono (e1.grow s), p1.seq (rel := rV X) fun ι2 y h2 V2 H2 e2 ⟨s2, r2⟩ p2 => ⟨γ, ι2, l, h2, s2, (lr.mono (e1.grow s)).mono (e2.grow s1), p2.seq (rel := rV X) fun ι3 z h3 V3 H3 e3 ⟨s3, r3⟩ p3 => ?_⟩⟩
      have q1 := (r1.mono (e2.grow s1)).mono (e3.grow s2)
      have q2 := r2.mono (e3.grow s2)
      split at p3
      · rename_i o e
        obtain ⟨a', r, e4, g, orr⟩ := lookD_ok s3 q1 q2 e
        cases e4
        refine ⟨r, g, ?_⟩
        rcases orr with ⟨rfl, rfl⟩ | ⟨x', v', rfl, rfl, rv⟩
        · exact p3.ok ⟨s3, r3⟩
        · exact p3.ok ⟨s3, rv⟩
      · exact p3.elim
    · exact p1.elim⟩
end
end ML

set_option maxRecDepth 100000
set_option maxHeartbeats 4000000
/-! ML29: a dict walked: it stands locked meanwhile; d[k] = v. -/
namespace ML
open PySem PySem.Spec PyProof.Rows L2
/-! ### locked cells -/
def lockable : MO → Bool
  | .dK _ => true
  | .dT _ => true
  | .dN _ => true
  | _ => false
theorem Grow.cellw {K : PySem.W.Frag} {mg : Str → Option Value} {γ ι : List Addr} {H : Hp} {h : MH} (s : SimH K mg γ ι H h) {n : Nat} {a : Addr} {w : HO} (ea : ι[n]? = some a) : Grow γ ι H γ ι (L2.upd H a w) := by
  have hmem : a ∈ ι := List.mem_of_getElem? ea
  exact ⟨List.prefix_refl _, fun p vs q => by rw [upd_ne (fun z => s.not_tup q (by rw [z]; exact hmem))]; exact q, fun p o q n g => ⟨n, g, by rw [upd_ne (fun z => n (by rw [z]; exact hmem))]; exact q⟩⟩
section
variable {K : PySem.W.Frag} {mg : Str → Option Value} {γ ι ι' : List Addr} {H H' : Hp} {h h' : MH}
theorem lockable_ok {a : Addr} {o : MO} {w : HO} (c : CR K mg γ ι H a o w) (l : lockable o = true) : Mut (some w) ∧ ∀ ob u, w ≠ .frz ob u := by
  cases c <;> first | exact ⟨True.intro, fun _ _ z => by cases z⟩ | cases l
theorem SimH.lock (s : SimH K mg γ ι H h) {n : Nat} {d : Addr} {o : MO} {u : HO} (ed : ι[n]? = some d) (hu : H d = some u) (c : CR K mg γ ι H d o u) (l : lockable o = true) (od : Obj) : SimH K mg γ ι (upd H d (.frz od u)) (h.set n (.frz o)) ∧ Ext ι H ι (upd H d (.frz od u)) := by
  obtain ⟨s1, e1⟩ := s.put (o := .frz o) (w := .frz od u) ed (.frz c)
  exact ⟨s1, e1 fun ob w z => (lockable_ok c l).2 ob w (by rw [hu] at z; exact Option.some.inj z)⟩
theorem SimH.unlock (s : SimH K mg γ ι H h) {n : Nat} {d : Addr} {o : MO} {u : HO} (ed : ι[n]? = some d) (hu : H d = some u) (c : CR K mg γ ι H d o u) (l : lockable o = true) {od : Obj} (e' : Ext ι (upd H d (.frz od u)) ι' H') (s' : SimH K mg γ ι' H' h') :
    H' d = some (.frz od u) ∧ SimH K mg γ ι' (upd H' d u) (h'.set n o) ∧ Ext ι H ι' (upd H' d u) ∧ Grow γ ι' H' γ ι' (upd H' d u) := by
  have hd : d ∈ ι := List.mem_of_getElem? ed
  obtain ⟨s1, e1⟩ := s.lock ed hu c l od
  have hf : H' d = some (.frz od u) := e'.frz d od u upd_same
  have ed' : ι'[n]? = some d := (e'.grow s1).get ed
  have g2 := Grow.cellw s' (w := u) ed'
  have c' : CR K mg γ ι' H' d o u := c.mono ((e1.trans e').grow s)
  refine ⟨hf, (s'.put ed' c').1, ⟨e'.pre, fun b ob q nb => ?_, fun b hb nb => ?_, fun b ob w q => ?_⟩, g2⟩
  · have hbd : b ≠ d := fun z => nb (by rw [z]; exact hd)
    rw [upd_ne hbd]
    exact e'.keep b ob (by rw [upd_ne hbd]; exact q) nb
  · have hbd : b ≠ d := fun z => nb (by rw [z]; exact hd)
    have q := e'.fresh b hb nb
    rw [upd_ne hbd] at q; exact q
  · have hbd : b ≠ d := fun z => by
      rw [z, hu] at q
      exact (lockable_ok c l).2 ob w (Option.some.inj q)
    rw [upd_ne hbd]
    exact e'.frz b ob w (by rw [upd_ne hbd]; exact q)
end
/-- whose cell is locked: a local's -/
def lkV (i : Nat) : Loc → MH → Option Nat := fun l _ => match l[i]? with
  | some (some (.ref n)) => some n
  | _ => none
def unlockS (n : Nat) (o : MO) : MS → MS
  | .nx l h => .nx l (h.set n o)
  | .rt v h => .rt v (h.set n o)
  | .bk l h => .bk l (h.set n o)
  | .ct l h => .ct l (h.set n o)
  | r => r
def mLockS (f : Loc → MH → Option Nat) (m : MSt) : MSt := fun l h => match f l h with
  | some n => (match h[n]? with
    | some o => if lockable o then unlockS n o (m l (h.set n (.frz o))) else .stuck
    | none => .stuck)
  | none => .stuck
def mLockE (f : Loc → MH → Option Nat) (m : MEx) : MEx := fun l h => match f l h with
  | some n => (match h[n]? with
    | some o => if lockable o then (m l (h.set n (.frz o))).bind fun v h1 => .ok v (h1.set n o) else .stuck
    | none => .stuck)
  | none => .stuck
section
variable {X : Cx} {W : WX} {pos : Pos}
theorem ms_lock {f : Loc → MH → Option Nat} {st : Stmt} {m : MSt} (hm : MSj X W st m) : MSj X W st (mLockS f m) := by
  refine psW (ps_lock hm) fun D σ H h0 => ?_
  obtain ⟨γ, ι, l, h, s, lr, p⟩ := h0
  unfold mLockS at p
  split at p
  · rename_i n ef
    split at p
    · rename_i o eo
      split at p
      · rename_i hl
        obtain ⟨d, ed⟩ := s.addr eo
        obtain ⟨w, hw, c⟩ := s.cell eo ed
        refine ⟨d, w, hw, (lockable_ok c hl).1, fun od => ?_⟩
        obtain ⟨s1, e1⟩ := s.lock ed hw c hl od
        refine ⟨γ, ι, l, _, s1, lr.mono (e1.grow s), ?_⟩
        revert p
        cases m l (h.set n (.frz o)) with
        | nx l1 h1 =>
          intro p ι1 σ1 H1 e s' lr'
          obtain ⟨q1, q2, q3, q4⟩ := s.unlock ed hw c hl e s'
          exact ⟨q1, p ι1 σ1 _ q3 q2 (lr'.mono q4)⟩
        | ct l1 h1 =>
          intro p ι1 σ1 H1 e s' lr'
          obtain ⟨q1, q2, q3, q4⟩ := s.unlock ed hw c hl e s'
          exact ⟨q1, p ι1 σ1 _ q3 q2 (lr'.mono q4)⟩
        | bk l1 h1 =>
          intro p ι1 σ1 H1 e s' lr'
          obtain ⟨q1, q2, q3, q4⟩ := s.unlock ed hw c hl e s'
          exact ⟨q1, p ι1 σ1 _ q3 q2 (lr'.mono q4)⟩
        | rt v h1 =>
          intro p ι1 V H1 e s' rv
          obtain ⟨q1, q2, q3, q4⟩ := s.unlock ed hw c hl e s'
          exact ⟨q1, p ι1 V _ q3 q2 (rv.mono q4)⟩
        | exn cn fs l1 h1 => exact fun p ι1 σ1 cls dd H1 e s' lr' xr => p ι1 σ1 cls dd H1 (e1.trans e) s' lr' xr
        | stuck => exact fun p => p
      · exact p.elim
    · exact p.elim
  · exact p.elim
theorem me_lock {f : Loc → MH → Option Nat} {e0 : Expr} {m : MEx} (hm : ME X W e0 m) : ME X W e0 (mLockE f m) := by
  refine peW (pe_lock hm) fun σ H Q h0 => ?_
  obtain ⟨γ, ι, l, h, s, lr, p⟩ := h0
  unfold mLockE at p
  split at p
  · rename_i n ef
    split at p
    · rename_i o eo
      split at p
      · rename_i hl
        obtain ⟨d, ed⟩ := s.addr eo
        obtain ⟨w, hw, c⟩ := s.cell eo ed
        refine ⟨d, w, hw, (lockable_ok c hl).1, fun od => ?_⟩
        obtain ⟨s1, e1⟩ := s.lock ed hw c hl od
        refine ⟨γ, ι, l, _, s1, lr.mono (e1.grow s), ?_⟩
        revert p
        cases m l (h.set n (.frz o)) with
        | ok v h1 =>
          intro p ι1 V H1 e r
          obtain ⟨s', rv⟩ := r
          obtain ⟨q1, q2, q3, q4⟩ := s.unlock ed hw c hl e s'
          exact ⟨q1, p ι1 V _ q3 ⟨q2, rv.mono q4⟩⟩
        | exn cn fs h1 =>
          intro p ι1 cls dd H1 e s' xr
          exact p ι1 cls dd H1 (e1.trans e) s' xr
        | stuck => exact fun p => p
      · exact p.elim
    · exact p.elim
  · exact p.elim
/-! ### a locked dict's keys -/
def itD (x : MV) (h : MH) : MR (List MV) := match x with
  | .ref n => match h[n]? with
    | some (.frz (.dK kvs)) => .ok (kvs.map fun p => mvK p.1) h
    | some (.frz (.dT kvs)) => .ok (kvs.map fun p => .tup (p.1.map mvK)) h
    | _ => .stuck
  | _ => .stuck
def mItD (m : MEx) : MLx := fun l h => (m l h).bind itD
theorem VR.mvK {K : PySem.W.Frag} {mg : Str → Option Value} {γ ι : List Addr} {H : Hp} : ∀ k : Key, VR K mg γ ι H (ML.mvK k) (kV k)
  | .inl i => .int i
  | .inr z => .str z
theorem VRs.mvKs {K : PySem.W.Frag} {mg : Str → Option Value} {γ ι : List Addr} {H : Hp} : ∀ ks : List Key, VRs K mg γ ι H (ks.map ML.mvK) (ks.map kV)
  | [] => .nil
  | k :: ks => .cons (VR.mvK k) (VRs.mvKs ks)
theorem FR.keyAt {K : PySem.W.Frag} {mg : Str → Option Value} {γ ι : List Addr} {H : Hp} {κ : Type} : ∀ {xs : List (κ × MV)} {vs : List (κ × L2.V)}, FR K mg γ ι H xs vs → xs.map (·.1) = vs.map (·.1)
  | [], _, .nil => rfl
  | _ :: _, _, .cons a b => by rw [List.map_cons, List.map_cons, FR.keyAt b]
theorem mi_dict {tg e : Expr} {m : MEx} (he : ME X W e m) : MI X W tg e (mItD m) := by
  refine ⟨fun pins s σ H R I h0 => (pi_keys he).run pins s σ H R I ?_⟩
  obtain ⟨γ, ι, l, h, sm, lr, p⟩ := h0
  refine ⟨γ, ι, l, h, sm, lr, p.seq (rel := rV X) fun ι1 x h1 V H1 e1 r1' p1 => ?_⟩
  obtain ⟨s1, r1⟩ := r1'
  unfold itD at p1
  split at p1
  · cases r1 with
    | ref ea =>
      split at p1
      · rename_i kvs q
        obtain ⟨w, hw, c⟩ := s1.cell q ea
        cases c with
        | frz c => cases c with
          | @dK _ vs fr =>
            refine ⟨_, _, rfl, .inl ⟨vs, hw, p1.ok ⟨s1, fun γ' ι' H' h' e' _ s' => ⟨fun i hi => ⟨e'.frz _ _ _ hw, ?_⟩, fun i x hx => ?_⟩⟩⟩⟩
            · rw [← fr.length]; simpa using hi
            · rw [List.getElem?_map] at hx
              obtain ⟨pr, hpr, rfl⟩ := Option.map_eq_some_iff.mp hx
              have hlt := (List.getElem?_eq_some_iff.mp hpr).1
              refine ⟨⟨e'.frz _ _ _ hw, by rw [← fr.length]; exact hlt⟩, fun V2 H2 y => ?_⟩
              obtain ⟨rfl, k, v, hk, rfl⟩ := y
              have ek : k = pr.1 := by
                have := congrArg (fun z => z[i]?) fr.keyAt
                simp only [List.getElem?_map, hpr, hk, Option.map_some] at this
                exact (Option.some.inj this).symm
              subst ek
              exact ⟨s', .refl _ _, VR.mvK _⟩
      · rename_i kvs q
        obtain ⟨w, hw, c⟩ := s1.cell q ea
        cases c with
        | frz c => cases c with
          | @dT _ vs fr =>
            refine ⟨_, _, rfl, .inr ⟨vs, hw, p1.ok ⟨s1, fun γ' ι' H' h' e' _ s' => ⟨fun i hi => ⟨e'.frz _ _ _ hw, ?_⟩, fun i x hx => ?_⟩⟩⟩⟩
            · rw [← fr.length]; simpa using hi
            · rw [List.getElem?_map] at hx
              obtain ⟨pr, hpr, rfl⟩ := Option.map_eq_some_iff.mp hx
              have hlt := (List.getElem?_eq_some_iff.mp hpr).1
              refine ⟨⟨e'.frz _ _ _ hw, by rw [← fr.length]; exact hlt⟩, fun V2 H2 y => ?_⟩
              obtain ⟨rfl, k, v, b, hk, rfl, hb⟩ := y
              have ek : k = pr.1 := by
                have := congrArg (fun z => z[i]?) fr.keyAt
                simp only [List.getElem?_map, hpr, hk, Option.map_some] at this
                exact (Option.some.inj this).symm
              subst ek
              exact ⟨s', .refl _ _, .tup (.inl hb) (VRs.mvKs _)⟩
      · exact p1.elim
  · exact p1.elim
/-! ### d[k] = v, the key a number, a text; a written tuple -/
def setK (x y v : MV) (h : MH) : MR Unit := match x with
  | .ref n => match h[n]?, keyM y with
    | some (.dK kvs), some k => if kvs.length < 16777216 then .ok () (h.set n (.dK (putM kvs k v))) else .stuck
    | _, _ => .stuck
  | _ => .stuck
def mSetK (a b e : MEx) : MSt := fun l h => (e l h).toS l fun v h1 => (a l h1).toS l fun x h2 => (b l h2).toS l fun y h3 => (setK x y v h3).toS l fun _ h4 => .nx l h4
theorem ms_setK {a b e : Expr} {ma mb mv : MEx} {tpos : Pos} (hu : X.A.units + 1 < cLine) (ha : ME X W a ma) (hb : ME X W b mb) (he : ME X W e mv) (hs : swapsWithSole [.Subscript a b tpos] e pos.line X.env = pure false := by rfl) (hw : swappedStores [.Subscript a b tpos] e X.env = pure none := by rfl)
    (h1 : (assignEach [.Subscript a b tpos] X.env).map (·.2) = [assign (.Subscript a b tpos) X.env] := by rfl)
    (hg : ∀ v, assign (.Subscript a b tpos) X.env v = (do
      let ov ← holding [v] (eval a X.env)
      let iv ← holding [v, ov] (eval b X.env)
      standAt tpos
      holding [v, ov, iv] (setItem ov iv v)
      release [v, ov, iv] []) := by intro _; rfl) : MSj X W (.Assign [.Subscript a b tpos] e pos) (mSetK ma mb mv) :=
  psW (ps_asg he (pg_sub ha hb (set_dict hu) hg) hs hw h1) fun D σ H ⟨γ, ι, l, h, s, lr, p⟩ => ⟨γ, ι, l, h, s, lr, PostS.run (rel := rV X) s lr p fun ι1 v h1 V H1 e1 lr1 ⟨s1, r1⟩ p1 =>
    ⟨γ, ι1, l, h1, s1, lr1, PostS.run (rel := rV X) s1 lr1 p1 fun ι2 x h2 V2 H2 e2 lr2 ⟨s2, r2⟩ p2 =>
    ⟨γ, ι2, l, h2, s2, lr2, PostS.run (rel := rV X) s2 lr2 p2 fun ι3 y h3 V3 H3 e3 lr3 ⟨s3, r3⟩ p3 => by
      have r1' := (r1.mono (e2.grow s1)).mono (e3.grow s2)
      have r2' := r2.mono (e3.grow s2)
      unfold setK at p3
      split at p3
      · split at p3
        · rename_i kvs k c1 c2
          split at p3
          · rename_i hz
            cases r2' with
            | ref ea =>
              obtain ⟨w, hw, c⟩ := s3.cell c1 ea
              cases c with
              | dK fr =>
                have := r3.key c2
                subst this
                obtain ⟨s4, e4⟩ := s3.put (o := .dK (putM kvs k v)) (w := .dK (putK _ k V)) ea (.dK (fr.put k r1'))
                have e4 := e4 (fun o w z => by rw [hw] at z; cases z)
                exact ⟨_, _, rfl, DPut.k hw (by rw [← fr.length, sizeLine_eq]; exact hz), p3 ι3 _ _ e4 s4 (lr3.mono (e4.grow s3))⟩
          · exact p3.elim
        · exact p3.elim
      · exact p3.elim⟩⟩⟩
end
end ML

set_option maxRecDepth 100000
set_option maxHeartbeats 4000000
/-! ML30: dicts whose keys are written tuples: {(a, b): v}, d[(a, b)] = v; weakest preconditions. -/
namespace ML
open PySem PySem.Spec PyProof.Rows L2
section
variable {X : Cx} {W : WX} {pos : Pos}
def tDispT (trs : List (TE × TE)) : TE := fun σ H Q => ∀ p, H p = none → tPairs trs σ (upd H p (.dT [])) fun ps H2 => H2 p = some (.dT []) ∧ ∃ ks b z, ps = [(V.ref b, z)] ∧ H2 b = some (.tup (ks.map kV)) ∧ Q (.ref p) (upd H2 p (.dT [(ks, z)]))
theorem pe_dispT {k v : Expr} {trs : List (TE × TE)} (hu : X.A.units + 1 < cLine) (h : PPs X pos [some k] [v] trs) : PE X (.Dict [some k] [v] pos) (tDispT trs) := by
  refine ⟨fun pins s σ H Q I q => ?_⟩
  have hn := I.hok.fresh (Nat.le_refl s.heap.objs.size)
  have I1 := I.laid (a := s.heap.objs.size) (o := .dT []) (h' := s.heap.push { cls := .type "dict", data := .dict #[] }) (t' := s.toks) (fun _ _ q => Heap.get?_push_of_some _ q) (Nat.le_refl _) (dt_empty s.heap I.big)
  have hl := pairTrees_length [some k] [v] X.env pos rfl rfl
  rw [arm_eval_Dict, zip_pairTrees [some k] [v] X.env pos rfl rfl, dictDisplay_pairs _ (fun e => by rw [e] at hl; cases hl) (by rw [hl]; show 1 < 17; decide)]
  refine wpAny_bind (wpAny_standAt (wpAny_bind (wpAny_subDictH (knd := tupleKind (mixKind X.prog X.w)) (Q := fun d s' => wpAny (model X.prog X.w) X.A (pure (Value.ref d)) (EP X pins σ Q) X.xe s') (Nat.lt_of_succ_lt hu) (by rw [hl]; show 1 ≤ 15; decide) ?_)))
  refine thn (h.run pins _ σ _ _ I1 (q _ hn)) fun ws s2 ⟨ps, H2, I2, rel, e, ks, b, z, ep, eb, q2⟩ => ?_
  subst ep
  cases rel with
  | @cons _ w _ ws h1 h2 =>
    cases h2
    obtain ⟨kv, vv⟩ := w
    obtain ⟨ra, rb⟩ := h1
    obtain rfl : kv = Value.ref b := ra
    obtain ⟨_, hd, xs, rel0, dd⟩ := dt_of I2.hok e
    cases rel0
    refine ⟨[(ks, b, vv)], ⟨rfl, rfl, key_of I2.hok eb, True.intro⟩, dd, fun h' tk dd' hs => wpAny_pure ⟨.ref s.heap.objs.size, _, ?_, rfl, q2⟩⟩
    obtain ⟨ob, es, epo, hq, g2, g3, g4, _, g5⟩ := dd'
    refine d_write I2 (by rw [e]; exact True.intro) hs ⟨ob, hq⟩ ⟨by rw [sizeLine_eq]; show 1 ≤ 16777216; decide, hd, [(ks, b, vv)], .cons ⟨rfl, ?_, rb⟩ .nil, ob, es, epo, hq, g2, g3, g4, g5⟩
    rw [upd_ne (fun z => by have z : b = s.heap.objs.size := z; rw [z, e] at eb; cases eb)]
    exact eb
/-- {(..): v} -/
def mDispT (ks : MLx) (m : MEx) : MEx := fun l h => (ks l (h ++ [.dT []])).bind fun xs h1 => if xs.length ≤ 16777216 then (m l h1).bind fun v h2 => (match h2[h.length]?, keysM xs with
  | some (.dT []), some k => .ok (.ref h.length) (h2.set h.length (.dT [(k, v)]))
  | _, _ => .stuck) else .stuck
theorem me_dispT {es : List Expr} {v : Expr} {k : Nat} {p2 : Pos} {n : MLx} {m : MEx} (hu : X.A.units + 1 < cLine) (ha : MA X W es n) (hv : ME X W v m) : ME X W (.Dict [some (.Tuple es k p2)] [v] pos) (mDispT n m) := by
  refine peW (pe_dispT hu (pps_cons (pe_tup ha) hv pps_nil)) fun σ H Q h0 q hq => ?_
  obtain ⟨γ, ι, l, h, s, lr, p⟩ := h0
  obtain ⟨s1, e1, hl1⟩ := s.alloc (o := .dT []) (w := .dT []) hq (.dT .nil)
  refine ⟨γ, _, l, _, s1, lr.mono (e1.grow s), (Post.mono p e1).seq (rel := rVs X) fun ι2 xs h2 bs H2 e2 r2' p2 => ?_⟩
  obtain ⟨s2, r2⟩ := r2'
  split at p2
  · rename_i hz
    refine ⟨line_le (by rw [← r2.length]; exact hz), fun b hb => ?_⟩
    obtain ⟨s3, e3⟩ := s2.lay (w := .tup bs) hb
    refine ⟨γ, ι2, l, h2, s3, ((lr.mono (e1.grow s)).mono (e2.grow s1)).mono (e3.grow s2), (Post.mono p2 e3).seq (rel := rV X) fun ι4 v h4 V4 H4 e4 r4' p4 => ?_⟩
    obtain ⟨s4, r4⟩ := r4'
    split at p4
    · rename_i k' c1 c2
      have ea := (e4.grow s3).get ((e2.grow s1).get hl1)
      obtain ⟨w, hw, c⟩ := s4.cell c1 ea
      cases c with
      | dT fr =>
        cases fr
        have := r2.keys c2
        subst this
        have hb4 : H4 b = some (.tup (k'.map kV)) := (e4.grow s3).tups _ _ upd_same
        obtain ⟨s5, e5⟩ := s4.put (o := .dT [(k', v)]) (w := .dT [(k', V4)]) ea (.dT (.cons r4 .nil))
        have e5 := e5 (fun o w z => by rw [hw] at z; cases z)
        exact ⟨hw, k', b, V4, rfl, hb4, p4.okE e5 ⟨s5, .ref ea⟩⟩
    · exact p4.elim
  · exact p2.elim
/-- d[(..)] = v -/
def setT (x : MV) (ks : List MV) (v : MV) (h : MH) : MR Unit := match x with
  | .ref n => match h[n]?, keysM ks with
    | some (.dT kvs), some k => if kvs.length < 16777216 then .ok () (h.set n (.dT (putM kvs k v))) else .stuck
    | _, _ => .stuck
  | _ => .stuck
def mSetT (a : MEx) (b : MLx) (e : MEx) : MSt := fun l h => (e l h).toS l fun v h1 => (a l h1).toS l fun x h2 => (b l h2).toS l fun ys h3 => if ys.length ≤ 16777216 then (setT x ys v h3).toS l fun _ h4 => .nx l h4 else .stuck
theorem ms_setT {a e : Expr} {es : List Expr} {j : Nat} {ma mv : MEx} {mb : MLx} {tpos p2 : Pos} (hu : X.A.units + 1 < cLine) (ha : ME X W a ma) (hb : MA X W es mb) (he : ME X W e mv) (hs : swapsWithSole [.Subscript a (.Tuple es j p2) tpos] e pos.line X.env = pure false := by rfl)
    (hw : swappedStores [.Subscript a (.Tuple es j p2) tpos] e X.env = pure none := by rfl) (h1 : (assignEach [.Subscript a (.Tuple es j p2) tpos] X.env).map (·.2) = [assign (.Subscript a (.Tuple es j p2) tpos) X.env] := by rfl)
    (hg : ∀ v, assign (.Subscript a (.Tuple es j p2) tpos) X.env v = (do
      let ov ← holding [v] (eval a X.env)
      let iv ← holding [v, ov] (eval (.Tuple es j p2) X.env)
      standAt tpos
      holding [v, ov, iv] (setItem ov iv v)
      release [v, ov, iv] []) := by intro _; rfl) : MSj X W (.Assign [.Subscript a (.Tuple es j p2) tpos] e pos) (mSetT ma mb mv) :=
  psW (ps_asg he (pg_sub ha (pe_tup hb) (set_dict hu) hg) hs hw h1) fun D σ H ⟨γ, ι, l, h, s, lr, p⟩ => ⟨γ, ι, l, h, s, lr, PostS.run (rel := rV X) s lr p fun ι1 v h1 V H1 e1 lr1 ⟨s1, r1⟩ p1 =>
    ⟨γ, ι1, l, h1, s1, lr1, PostS.run (rel := rV X) s1 lr1 p1 fun ι2 x h2 V2 H2 e2 lr2 ⟨s2, r2⟩ p2 =>
    ⟨γ, ι2, l, h2, s2, lr2, PostS.run (rel := rVs X) s2 lr2 p2 fun ι3 ys h3 Vs H3 e3 lr3 ⟨s3, r3⟩ p3 => by
      have r1' := (r1.mono (e2.grow s1)).mono (e3.grow s2)
      have r2' := r2.mono (e3.grow s2)
      split at p3
      · rename_i hz
        refine ⟨line_le (by rw [← r3.length]; exact hz), fun b hb => ?_⟩
        obtain ⟨s4, e4⟩ := s3.lay (w := .tup Vs) hb
        unfold setT at p3
        split at p3
        · split at p3
          · rename_i kvs k c1 c2
            split at p3
            · rename_i hz2
              cases r2' with
              | ref ea =>
                obtain ⟨w, hw, c⟩ := s4.cell c1 ea
                cases c with
                | dT fr =>
                  have := r3.keys c2
                  subst this
                  obtain ⟨s5, e5⟩ := s4.put (o := .dT (putM kvs k v)) (w := .dT (putK _ k V)) ea (.dT (fr.put k (r1'.mono (e4.grow s3))))
                  have e5 := e5 (fun o w z => by rw [hw] at z; cases z)
                  exact ⟨_, _, rfl, DPut.t hw upd_same (by rw [← fr.length, sizeLine_eq]; exact hz2), p3 ι3 _ _ (e4.trans e5) s5 ((lr3.mono (e4.grow s3)).mono (e5.grow s4))⟩
            · exact p3.elim
          · exact p3.elim
        · exact p3.elim
      · exact p3.elim⟩⟩⟩
end
end ML

set_option maxRecDepth 100000
/-! ML31: weakest preconditions: dicts. -/
namespace ML
open PySem PySem.Spec PyProof.Rows L2
section
variable {l : Loc} {h : MH} {N : Loc → MH → Prop} {P : Po} {E : PE'} {Q : MV → MH → Prop} {QL : List MV → MH → Prop}
theorem wp_ixD {x y v : MV} (e : lookD h x y = some (some v)) (q : Q v h) : okR (ixDO x y h) Q E := by unfold ixDO; rw [e]; exact ⟨q⟩
theorem lookD_dT {n : Nat} {kvs : List (List Key × MV)} {ks : List MV} (e : h[n]? = some (.dT kvs)) : lookD h (.ref n) (.tup ks) = (keysM ks).map (lookM kvs) := by unfold lookD; dsimp only; rw [e]
theorem lookD_fT {n : Nat} {kvs : List (List Key × MV)} {ks : List MV} (e : h[n]? = some (.frz (.dT kvs))) : lookD h (.ref n) (.tup ks) = (keysM ks).map (lookM kvs) := by unfold lookD; dsimp only; rw [e]
theorem lookD_dK {n : Nat} {kvs : List (Key × MV)} {y : MV} (e : h[n]? = some (.dK kvs)) : lookD h (.ref n) y = (keyM y).map (lookM kvs) := by unfold lookD; dsimp only; rw [e]
theorem lookD_fK {n : Nat} {kvs : List (Key × MV)} {y : MV} (e : h[n]? = some (.frz (.dK kvs))) : lookD h (.ref n) y = (keyM y).map (lookM kvs) := by unfold lookD; dsimp only; rw [e]
theorem wp_getD {a b c : MEx} (o : okR (a l h) (fun x h1 => isDD h1 x = true ∧ okR (b l h1) (fun y h2 => okR (c l h2) (fun z h3 => ∃ o, lookD h3 x y = some o ∧ Q (o.getD z) h3) E) E) E) : okR (mGetD a b c l h) Q E := by
  refine okR_bind (okR_mono o ?_ fun _ _ _ q => q)
  rintro x h1 ⟨q1, q2⟩
  rw [if_pos q1]
  refine okR_bind (okR_mono q2 ?_ fun _ _ _ q => q)
  intro y h2 q2
  refine okR_bind (okR_mono q2 ?_ fun _ _ _ q => q)
  rintro z h3 ⟨o, e, q⟩
  rw [e]; exact ⟨q⟩
theorem isDD_dT {n : Nat} {kvs : List (List Key × MV)} (e : h[n]? = some (.dT kvs)) : isDD h (.ref n) = true := by unfold isDD; dsimp only; rw [e]
theorem isDD_dK {n : Nat} {kvs : List (Key × MV)} (e : h[n]? = some (.dK kvs)) : isDD h (.ref n) = true := by unfold isDD; dsimp only; rw [e]
theorem wp_setT {a e : MEx} {b : MLx} (o : okR (e l h) (fun v h1 => okR (a l h1) (fun x h2 => okR (b l h2) (fun ys h3 => ∃ n kvs k, x = .ref n ∧ h3[n]? = some (.dT kvs) ∧ keysM ys = some k ∧ ys.length ≤ 16777216 ∧ kvs.length < 16777216 ∧ N l (h3.set n (.dT (putM kvs k v))))
    fun c fs h => P.E c fs l h) fun c fs h => P.E c fs l h) fun c fs h => P.E c fs l h) : okS (mSetT a b e l h) N P := by
  refine okR_toS (okR_mono o ?_ fun _ _ _ q => q)
  intro v h1 o
  refine okR_toS (okR_mono o ?_ fun _ _ _ q => q)
  intro x h2 o
  refine okR_toS (okR_mono o ?_ fun _ _ _ q => q)
  rintro ys h3 ⟨n, kvs, k, rfl, e1, e2, hz, hk, q⟩
  rw [if_pos hz]
  have : setT (.ref n) ys v h3 = .ok () (h3.set n (.dT (putM kvs k v))) := by unfold setT; dsimp only; rw [e1, e2]; dsimp only; rw [if_pos hk]
  rw [this]
  exact okR_toS (r := .ok () _) ⟨⟨q⟩⟩
theorem wp_setK {a b e : MEx} (o : okR (e l h) (fun v h1 => okR (a l h1) (fun x h2 => okR (b l h2) (fun y h3 => ∃ n kvs k, x = .ref n ∧ h3[n]? = some (.dK kvs) ∧ keyM y = some k ∧ kvs.length < 16777216 ∧ N l (h3.set n (.dK (putM kvs k v))))
    fun c fs h => P.E c fs l h) fun c fs h => P.E c fs l h) fun c fs h => P.E c fs l h) : okS (mSetK a b e l h) N P := by
  refine okR_toS (okR_mono o ?_ fun _ _ _ q => q)
  intro v h1 o
  refine okR_toS (okR_mono o ?_ fun _ _ _ q => q)
  intro x h2 o
  refine okR_toS (okR_mono o ?_ fun _ _ _ q => q)
  rintro y h3 ⟨n, kvs, k, rfl, e1, e2, hk, q⟩
  have : setK (.ref n) y v h3 = .ok () (h3.set n (.dK (putM kvs k v))) := by unfold setK; dsimp only; rw [e1, e2]; dsimp only; rw [if_pos hk]
  rw [this]
  exact okR_toS (r := .ok () _) ⟨⟨q⟩⟩
theorem wp_dispT {ks : MLx} {m : MEx} (o : okR (ks l (h ++ [.dT []])) (fun xs h1 => xs.length ≤ 16777216 ∧ okR (m l h1) (fun v h2 => ∃ k, h2[h.length]? = some (.dT []) ∧ keysM xs = some k ∧ Q (.ref h.length) (h2.set h.length (.dT [(k, v)]))) E) E) : okR (mDispT ks m l h) Q E := by
  refine okR_bind (okR_mono o ?_ fun _ _ _ q => q)
  rintro xs h1 ⟨hz, o⟩
  rw [if_pos hz]
  refine okR_bind (okR_mono o ?_ fun _ _ _ q => q)
  rintro v h2 ⟨k, e1, e2, q⟩
  rw [e1, e2]
  exact ⟨q⟩
theorem wp_lockS {f : Loc → MH → Option Nat} {m : MSt} {n : Nat} {o : MO} (ef : f l h = some n) (eo : h[n]? = some o) (hl : lockable o = true)
    (q : okS (m l (h.set n (.frz o))) (fun l h => N l (h.set n o)) ⟨fun v h => P.R v (h.set n o), fun l h => P.B l (h.set n o), fun l h => P.C l (h.set n o), P.E⟩) : okS (mLockS f m l h) N P := by
  unfold mLockS
  rw [ef]; dsimp only; rw [eo]; dsimp only; rw [if_pos hl]
  revert q
  cases m l (h.set n (.frz o)) with
  | nx l1 h1 => exact fun q => ⟨q.out⟩
  | rt v h1 => exact fun q => ⟨q.out⟩
  | bk l1 h1 => exact fun q => ⟨q.out⟩
  | ct l1 h1 => exact fun q => ⟨q.out⟩
  | exn c fs l1 h1 => exact fun q => ⟨q.out⟩
  | stuck => exact fun q => q.out.elim
theorem wp_lockE {f : Loc → MH → Option Nat} {m : MEx} {n : Nat} {o : MO} (ef : f l h = some n) (eo : h[n]? = some o) (hl : lockable o = true) (q : okR (m l (h.set n (.frz o))) (fun v h => Q v (h.set n o)) E) : okR (mLockE f m l h) Q E := by
  unfold mLockE
  rw [ef]; dsimp only; rw [eo]; dsimp only; rw [if_pos hl]
  exact okR_bind (okR_mono q (fun _ _ q => ⟨q⟩) fun _ _ _ q => q)
theorem wp_ItD {m : MEx} (o : okR (m l h) (fun x h1 => okR (itD x h1) QL E) E) : okR (mItD m l h) QL E := okR_bind o
theorem wp_itDT {n : Nat} {kvs : List (List Key × MV)} (e : h[n]? = some (.frz (.dT kvs))) (q : QL (kvs.map fun p => .tup (p.1.map mvK)) h) : okR (itD (.ref n) h) QL E := by unfold itD; dsimp only; rw [e]; exact ⟨q⟩
theorem wp_itDK {n : Nat} {kvs : List (Key × MV)} (e : h[n]? = some (.frz (.dK kvs))) (q : QL (kvs.map fun p => mvK p.1) h) : okR (itD (.ref n) h) QL E := by unfold itD; dsimp only; rw [e]; exact ⟨q⟩
end
end ML

set_option maxRecDepth 100000
/-! ML32: [..] * n as a fresh list. -/
namespace ML
open PySem PySem.Spec PyProof.Rows L2
section
variable {X : Cx} {W : WX} {pos : Pos}
def mulLL (x y : MV) (h : MH) : MR (List MV) := match lsOf h x, y with
  | some xs, .int k => if -(2 ^ 63) ≤ k ∧ k < 2 ^ 63 ∧ xs.length * k.toNat ≤ 16777216 then .ok (List.replicate k.toNat xs).flatten h else .stuck
  | _, _ => .stuck
def mMulL (ma mb : MEx) : MLx := fun l h => (ma l h).bind fun x h1 => (mb l h1).bind fun y h2 => mulLL x y h2
theorem ml_mul {a b : Expr} {ma mb : MEx} (ha : ME X W a ma) (hb : ME X W b mb) : MLs X W (.BinOp a .Mult b pos) (mMulL ma mb) :=
  peW (pe_op op_repL ha hb) fun σ H Q ⟨γ, ι, l, h, s, lr, p⟩ => ⟨γ, ι, l, h, s, lr, p.seq (rel := rV X) fun ι1 x h1 V1 H1 e1 ⟨s1, r1⟩ p1 => ⟨γ, ι1, l, h1, s1, lr.mono (e1.grow s), p1.seq (rel := rV X) fun ι2 y h2 V2 H2 e2 ⟨s2, r2⟩ p2 => by
    have r1' := r1.mono (e2.grow s1)
    unfold mulLL at p2
    cases q1 : lsOf h2 x with
    | none => rw [q1] at p2; exact p2.elim
    | some xs =>
      rw [q1] at p2
      cases r2 with
      | int k =>
        dsimp only at p2
        obtain ⟨i, vs, rfl, _, sa, ra⟩ := s2.ls r1' q1
        split at p2
        · rename_i hz
          refine ⟨i, _, vs, rfl, rfl, sa, hz.1, hz.2.1, line_le (by rw [← ra.length]; exact hz.2.2), fun q hq => ?_⟩
          obtain ⟨e, r⟩ := s2.layL hq (ra.rep _)
          exact p2.okE e r
        · exact p2.elim
      | _ => exact p2.elim⟩⟩
end
section
variable {l : Loc} {h : MH} {E : PE'} {QL : List MV → MH → Prop}
theorem wp_MulL {ma mb : MEx} (o : okR (ma l h) (fun x h1 => okR (mb l h1) (fun y h2 => okR (mulLL x y h2) QL E) E) E) : okR (mMulL ma mb l h) QL E := okR_bind (okR_mono o (fun _ _ q => okR_bind q) fun _ _ _ q => q)
theorem wp_mulLF {xs : List MV} {k : Int} (hk : -(2 ^ 63) ≤ k ∧ k < 2 ^ 63 ∧ xs.length * k.toNat ≤ 16777216) (q : QL (List.replicate k.toNat xs).flatten h) : okR (mulLL (.fl xs) (.int k) h) QL E := by
  unfold mulLL
  rw [show lsOf h (.fl xs) = some xs from rfl]
  exact wp_ite_t hk ⟨q⟩
end
end ML

set_option maxRecDepth 100000
set_option maxHeartbeats 4000000
/-! ML33: instances of the text's classes: fields, methods, making, len. -/
namespace ML
open PySem PySem.Spec PyProof.Rows L2
/-! ### fields -/
/-- the classes cs: plain ones, the name f is a field's -/
structure FiF (K : PySem.W.Frag) (mg : Str → Option Value) (f : Str) (cs : List Str) : Prop where
  t : ∀ c ∈ cs, ∃ C, mg c = some (.ref C) ∧ Cls K C ∧ NoAttr K C f
theorem fiB_ok {K : PySem.W.Frag} {h : Heap} {mg : Str → Option Value} (X : K.In h) (G : h.Ns mainGlobals mg) {f : Str} {cs : List Str} (c : fiB f cs K = true) : FiF K mg f cs := by
  refine ⟨fun x hx => ?_⟩
  obtain ⟨h1, h2⟩ := Bool.and_eq_true_iff.mp (List.all_eq_true.mp c x hx)
  obtain ⟨h2, h3⟩ := Bool.and_eq_true_iff.mp h2
  exact ⟨_, gloB_ok X G h1, He.cls_ok h2, He.noat_ok h3⟩
/-- an instance's field -/
def fldI (f : Str) (cs : List Str) (v : MV) (h : MH) : MR MV := match v with
  | .ref n => match h[n]? with
    | some (.ins c fs) => if c ∈ cs then (match fs.lookup f with
      | some x => .ok x h
      | none => .stuck) else .stuck
    | _ => .stuck
  | _ => .stuck
def mFldI (f : Str) (cs : List Str) (a : MEx) : MEx := fun l h => (a l h).bind (fldI f cs)
def putFM (f : Str) (y : MV) : List (Str × MV) → List (Str × MV)
  | [] => [(f, y)]
  | (g, x) :: r => if g = f then (g, y) :: r else (g, x) :: putFM f y r
def setI (f : Str) (cs : List Str) (v y : MV) (h : MH) : Option MH := match v with
  | .ref n => match h[n]? with
    | some (.ins c fs) => if c ∈ cs ∧ fs.length < 1000 then some (h.set n (.ins c (putFM f y fs))) else none
    | _ => none
  | _ => none
def mSetF (f : Str) (cs : List Str) (o v : MEx) : MSt := fun l h => (v l h).toS l fun y h1 => (o l h1).toS l fun x h2 => match setI f cs x y h2 with
  | some h3 => .nx l h3
  | none => .stuck
/-- the class and the number that stands in a field -/
def clsI (f : Str) (cs : List Str) (x : MV) (h : MH) : Option (Str × Int) := match x with
  | .ref n => match h[n]? with
    | some (.ins c fs) => if c ∈ cs then (match fs.lookup f with
      | some (.int i) => some (c, i)
      | _ => none) else none
    | _ => none
  | _ => none
def mAugF (op : Int → Int → Int) (f : Str) (cs : List Str) (o v : MEx) : MSt := fun l h => (o l h).toS l fun x h1 => match clsI f cs x h1 with
  | some (c, i) => (v l h1).toS l fun b h2 => (match b with
    | .int j => (match setI f [c] x (.int (op i j)) h2 with
      | some h3 => .nx l h3
      | none => .stuck)
    | _ => .stuck)
  | none => .stuck
section
variable {K : PySem.W.Frag} {mg : Str → Option Value} {γ ι : List Addr} {H : Hp}
theorem FR.putF {f : Str} {y : MV} {u : V} (q : VR K mg γ ι H y u) {fs : List (Str × MV)} {gs : List (Str × V)} (r : FR K mg γ ι H fs gs) : FR K mg γ ι H (putFM f y fs) (L2.putF f u gs) := by
  induction r with
  | nil => exact .cons q .nil
  | @cons k x v xs vs a b ih =>
    unfold putFM L2.putF
    by_cases h : k = f
    · rw [if_pos h, if_pos h]; exact .cons q b
    · rw [if_neg h, if_neg h]; exact .cons a ih
theorem FR.lookN {f : Str} {fs : List (Str × MV)} {gs : List (Str × V)} (r : FR K mg γ ι H fs gs) (e : fs.lookup f = none) : gs.lookup f = none := by
  induction r with
  | nil => rfl
  | @cons k y v xs vs a b ih =>
    rw [List.lookup_cons] at e ⊢
    by_cases hk : (f == k) = true
    · rw [hk] at e; cases e
    · rw [Bool.not_eq_true] at hk
      rw [hk] at e ⊢
      exact ih e
theorem fldI_ok {h : MH} (s : SimH K mg γ ι H h) {f : Str} {cs : List Str} {x : MV} {V : L2.V} (r : VR K mg γ ι H x V) (F : FiF K mg f cs) {α β : Type} : (∃ y, fldI f cs x h = .ok y h ∧ ∃ a C dx gs v, V = .ref a ∧ H a = some (.ins C dx gs) ∧ Cls K C ∧ NoAttr K C f ∧ gs.lookup f = some v ∧ VR K mg γ ι H y v) ∨ fldI f cs x h = .stuck := by
  unfold fldI
  split
  · cases r with
    | ref ea =>
      split
      · rename_i c fs q
        split
        · rename_i hc
          split
          · rename_i y el
            obtain ⟨w, hw, cr⟩ := s.cell q ea
            cases cr with
            | @ins _ C dx _ gs e fr =>
              obtain ⟨C', e', c1, c2⟩ := F.t c hc
              rw [e] at e'; cases e'
              obtain ⟨v, hv, rv⟩ := fr.look el
              exact .inl ⟨y, rfl, _, C, dx, gs, v, rfl, hw, c1, c2, hv, rv⟩
          · exact .inr rfl
        · exact .inr rfl
      · exact .inr rfl
  · exact .inr rfl
theorem clsI_ok {h : MH} (s : SimH K mg γ ι H h) {f : Str} {cs : List Str} {x : MV} {V : L2.V} (r : VR K mg γ ι H x V) (F : FiF K mg f cs) {c : Str} {i : Int} (e : clsI f cs x h = some (c, i)) :
    ∃ a C dx gs, V = .ref a ∧ H a = some (.ins C dx gs) ∧ Cls K C ∧ NoAttr K C f ∧ gs.lookup f = some (.int i) ∧ mg c = some (.ref C) ∧ FiF K mg f [c] := by
  unfold clsI at e
  split at e
  · cases r with
    | ref ea =>
      split at e
      · rename_i c fs q
        split at e
        · rename_i hc
          split at e
          · rename_i i el
            cases e
            obtain ⟨w, hw, cr⟩ := s.cell q ea
            cases cr with
            | @ins _ C dx _ gs eC fr =>
              obtain ⟨C', e', c1, c2⟩ := F.t c hc
              rw [eC] at e'; cases e'
              obtain ⟨v, hv, rv⟩ := fr.look el
              cases rv
              exact ⟨_, C, dx, gs, rfl, hw, c1, c2, hv, eC, ⟨fun d hd => by rw [List.mem_singleton] at hd; subst hd; exact ⟨C, eC, c1, c2⟩⟩⟩
          · cases e
        · cases e
      · cases e
  · cases e
theorem setI_ok {h h' : MH} (s : SimH K mg γ ι H h) {f : Str} {cs : List Str} {x y : MV} {V U : L2.V} (r : VR K mg γ ι H x V) (F : FiF K mg f cs) (e : setI f cs x y h = some h') :
    ∃ a c C dx gs, c ∈ cs ∧ mg c = some (.ref C) ∧ V = .ref a ∧ H a = some (.ins C dx gs) ∧ Cls K C ∧ NoAttr K C f ∧ gs.length < 1000 ∧ ∀ {ι0 H0}, Grow γ ι0 H0 γ ι H → VR K mg γ ι0 H0 y U → SimH K mg γ ι (upd H a (.ins C dx (L2.putF f U gs))) h' ∧ Ext ι H ι (upd H a (.ins C dx (L2.putF f U gs))) := by
  unfold setI at e
  split at e
  · cases r with
    | ref ea =>
      split at e
      · rename_i c fs q
        split at e
        · rename_i hc
          obtain ⟨w, hw, cr⟩ := s.cell q ea
          cases cr with
          | @ins _ C dx _ gs eC fr =>
            obtain ⟨C', e', c1, c2⟩ := F.t c hc.1
            rw [eC] at e'; cases e'
            cases e
            refine ⟨_, c, C, dx, gs, hc.1, eC, rfl, hw, c1, c2, ?_, fun g rv => ?_⟩
            · have := fr.length; have := hc.2; omega
            · obtain ⟨s1, e1⟩ := s.put (o := .ins c (putFM f y fs)) ea (.ins eC (fr.putF (rv.mono g)))
              exact ⟨s1, e1 fun o w z => by rw [hw] at z; cases z⟩
        · cases e
      · cases e
  · cases e
end
section
variable {X : Cx} {W : WX} {pos pos' tpos : Pos}
theorem me_fldI {f : Str} {cs : List Str} {e : Expr} {m : MEx} (F : FiF X.K X.mg f cs) (he : ME X W e m) (hb : attributeBase e f X.env (eval e X.env) = eval e X.env := by rfl) : ME X W (.Attribute e f pos) (mFldI f cs m) := by
  refine peW (pe_fld he hb) fun σ H Q ⟨γ, ι, l, h, s, lr, p⟩ => ⟨γ, ι, l, h, s, lr, p.seq (rel := rV X) fun ι1 x h1 V H1 e1 ⟨s1, r1⟩ p1 => ?_⟩
  rcases fldI_ok (α := Nat) (β := Nat) s1 r1 F with ⟨y, ey, a, C, dx, gs, v, h1, h2, h3, h4, h5, h6⟩ | ey
  · rw [ey] at p1
    exact ⟨a, C, dx, gs, v, h1, h2, h3, h4, h5, p1.ok ⟨s1, h6⟩⟩
  · rw [ey] at p1; exact p1.elim
theorem ms_setF {f : Str} {cs : List Str} {o e : Expr} {mo m : MEx} (F : FiF X.K X.mg f cs) (ho : ME X W o mo) (he : ME X W e m) (hs : swapsWith e (some (.Attribute o f pos')) pos.line X.env = pure false := by rfl) : MSj X W (.Assign [.Attribute o f pos'] e pos) (mSetF f cs mo m) := by
  refine psW (ps_fld ho he hs) fun D σ H ⟨γ, ι, l, h, s, lr, p⟩ => ⟨γ, ι, l, h, s, lr, PostS.run (rel := rV X) s lr p fun ι1 y h1 U H1 e1 lr1 ⟨s1, r1⟩ p1 => ⟨γ, ι1, l, h1, s1, lr1, PostS.run (rel := rV X) s1 lr1 p1 fun ι2 x h2 V H2 e2 lr2 ⟨s2, r2⟩ p2 => ?_⟩⟩
  split at p2
  · rename_i h3 es
    obtain ⟨a, _, C, dx, gs, _, _, q1, q2, q3, q4, q5, q6⟩ := setI_ok (U := U) s2 r2 F es
    obtain ⟨s3, e3⟩ := q6 (e2.grow s1) r1
    exact ⟨a, C, dx, gs, q1, q2, q3, q4, q5, p2 ι2 σ _ e3 s3 (lr2.mono (e3.grow s2))⟩
  · exact p2.elim
/-- an augmented operator on ints -/
structure IntOp (X : Cx) (o : Operator) (op : Int → Int → Int) : Prop where
  r : ∃ rd, InOp X o rd ∧ ∀ i j H (Q : VK), Q (.int (op i j)) H → rd (.int i) (.int j) H Q
theorem io_add : IntOp X .Add (fun i j => i + j) := ⟨rAdd, in_add, fun i j H Q q => ⟨i, j, rfl, rfl, q⟩⟩
theorem io_sub : IntOp X .Sub (fun i j => i - j) := ⟨rSub, in_sub, fun i j H Q q => ⟨i, j, rfl, rfl, q⟩⟩
theorem ms_augF {f : Str} {cs : List Str} {o e : Expr} {mo m : MEx} {op : Operator} {g : Int → Int → Int} (I : IntOp X op g) (F : FiF X.K X.mg f cs) (ho : ME X W o mo) (he : ME X W e m) : MSj X W (.AugAssign (.Attribute o f tpos) op e pos) (mAugF g f cs mo m) := by
  obtain ⟨rd, hI, hR⟩ := I.r
  refine psW (ps_fldaug ho he hI) fun D σ H ⟨γ, ι, l, h, s, lr, p⟩ => ⟨γ, ι, l, h, s, lr, PostS.run (rel := rV X) s lr p fun ι1 x h1 V H1 e1 lr1 ⟨s1, r1⟩ p1 => ?_⟩
  cases ec : clsI f cs x h1 with
  | none => rw [ec] at p1; exact p1.elim
  | some ci =>
    obtain ⟨c, i⟩ := ci
    rw [ec] at p1
    obtain ⟨a, C, dx, gs, k1, k2, k3, k4, k5, k6, k7⟩ := clsI_ok s1 r1 F ec
    refine ⟨a, C, dx, gs, _, k1, k2, k3, k4, k5, γ, ι1, l, h1, s1, lr1, PostS.run (rel := rV X) s1 lr1 p1 fun ι2 b h2 U H2 e2 lr2 r2' p2 => ?_⟩
    obtain ⟨s2, r2⟩ := r2'
    split at p2
    · rename_i j
      cases r2
      refine hR _ _ _ _ ?_
      split at p2
      · rename_i h3 es
        obtain ⟨a', c', C', dx', gs', hm, q0, q1, q2, q3, q4, q5, q6⟩ := setI_ok (U := .int (g i j)) s2 (r1.mono (e2.grow s1)) k7 es
        rw [List.mem_singleton] at hm
        subst hm
        rw [k6] at q0; cases q0
        rw [k1] at q1; cases q1
        obtain ⟨s3, e3⟩ := q6 (Grow.hide fun d hd => .inl hd) (.int _)
        exact ⟨dx', gs', q2, q5, p2 ι2 σ _ e3 s3 (lr2.mono (e3.grow s2))⟩
      · exact p2.elim
    · exact p2.elim
end
end ML

set_option maxRecDepth 100000
set_option maxHeartbeats 4000000
/-! ML34: methods called, instances made, len of an instance. -/
namespace ML
open PySem PySem.Spec PyProof.Rows L2
/-- a method's promise: dvs are the values that lack -/
structure FnI (P : Program) (w : World) (K : PySem.W.Frag) (mg : Str → Option Value) (base : Heap) (c m : Str) (n k : Nat) (dvs : List MV) (mf : List MV → MH → MR MV) : Prop where
  ex : ∃ (C f : Addr) (fd : FuncData) (ps : List Str) (ds : List Value) (dV : List V), mg c = some (.ref C) ∧ Cls K C ∧ Meth K C m f ∧ Binds K fd ps ds ∧ Vals dV ds ∧ (∀ γ ι H, VRs K mg γ ι H dvs dV) ∧ FnOk P w K mg base (L2.CX P w) k f fd ps (spM K mg n mf)
/-- a class that is made by its __init__ -/
structure FnC (P : Program) (w : World) (K : PySem.W.Frag) (mg : Str → Option Value) (base : Heap) (c : Str) (n k : Nat) (mf : List MV → MH → MR MV) : Prop where
  ex : ∃ (C f : Addr) (fd : FuncData) (ps : List Str), mg c = some (.ref C) ∧ Mk K C f ∧ Binds K fd ps [] ∧ FnOk P w K mg base (L2.CX P w) k f fd ps (spM K mg n mf)
def insB (c m : Str) (x : MV) (h : MH) : Bool := match x with
  | .ref n => (match h[n]? with
    | some (.ins d fs) => decide (d = c) && (fs.lookup m).isNone
    | _ => false)
  | _ => false
def mMeth (c m : Str) (n : Nat) (dvs : List MV) (mf : List MV → MH → MR MV) (o : MEx) (a : MLx) : MEx := fun l h => (o l h).bind fun x h1 => if insB c m x h1 then (a l h1).bind fun xs h2 => if (x :: (xs ++ dvs)).length = n then mf (x :: (xs ++ dvs)) h2 else .stuck else .stuck
/-- C(..) -/
def mMake (c : Str) (n : Nat) (mf : List MV → MH → MR MV) (a : MLx) : MEx := fun l h => (a l h).bind fun xs h1 => if (MV.ref h1.length :: xs).length = n then (mf (.ref h1.length :: xs) (h1 ++ [.ins c []])).bind fun v h2 => (match v with
  | .non => .ok (.ref h1.length) h2
  | _ => .stuck) else .stuck
/-- len(o) by __len__ -/
def mLenI (c : Str) (mf : List MV → MH → MR MV) (o : MEx) : MEx := fun l h => (o l h).bind fun x h1 => if insB c "__len__" x h1 then (mf [x] h1).bind fun v h2 => (match v with
  | .int i => if 0 ≤ i ∧ i < 2 ^ 63 then .ok (.int i) h2 else .stuck
  | _ => .stuck) else .stuck
section
variable {K : PySem.W.Frag} {mg : Str → Option Value} {γ ι : List Addr} {H : Hp}
theorem insB_ok {h : MH} (s : SimH K mg γ ι H h) {c m : Str} {x : MV} {V : L2.V} (r : VR K mg γ ι H x V) (e : insB c m x h = true) : ∃ a C dx gs, V = .ref a ∧ H a = some (.ins C dx gs) ∧ mg c = some (.ref C) ∧ gs.lookup m = none := by
  unfold insB at e
  split at e
  · cases r with
    | ref ea =>
      split at e
      · rename_i d fs q
        obtain ⟨e1, e2⟩ := Bool.and_eq_true_iff.mp e
        have := of_decide_eq_true e1
        subst this
        obtain ⟨w, hw, cr⟩ := s.cell q ea
        cases cr with
        | @ins _ C dx _ gs eC fr => exact ⟨_, C, dx, gs, rfl, hw, eC, fr.lookN (by simpa using e2)⟩
      · cases e
  · cases e
end
section
variable {X : Cx} {W : WX} {k : Nat} {f C : Addr} {fd : FuncData} {ps : List Str} {sp : Sp} {x m : Str} {p pos apos : Pos} {e o : Expr} {es : List Expr} {ta : TA} {to : TE} {ds : List Value} {dV : List V}
theorem run_fnD {pins : List (Addr × Obj)} {σ : L2.St} {H : Hp} {s : Shared} {Q : VK} {us : List Value} {vs : List V} (F : FnOk X.prog X.w X.K X.mg X.base (L2.CX X.prog X.w) k f fd ps sp) (hr : Room k X.A) (hb : Binds X.K fd ps ds) (hd : Vals dV ds) (tk : Takes X W)
    (I : Inv X pins σ H s) (r : Vals vs us) (h : sp (vs ++ dV) H Q fun cls d H' => W cls d σ H') : wpAny (model X.prog X.w) X.A (call (.ref f) us) (EP X pins σ Q) X.xe s := by
  have r2 : Vals (vs ++ dV) (us ++ ds) := r.append hd
  have hl : (us ++ ds).length = ps.length := by rw [← r2.length]; exact F.len _ _ _ _ h
  refine wpAny_call (codeAny_mono (F.run X.A X.stack s H ⟨us, []⟩ (us ++ ds) (vs ++ dV) Q _ hr I.env0 (hb s us I.kIn hl) r2 h) fun r s' hq => ?_)
  cases r with
  | error e => exact tk e s' (XE.of_call I (fun cls d H' z => z) hq)
  | ok fl =>
    cases fl with
    | ret u => exact I.after hq
    | next => exact False.elim hq
    | brk => exact False.elim hq
    | cont => exact False.elim hq
/-- o.m(..): what is asked -/
def tMethW (W : WX) (C : Addr) (m : Str) (sp : Sp) (dV : List V) (to : TE) (ta : TA) : TE := fun σ H Q => to σ H fun x H1 => ∃ a dx fs, x = .ref a ∧ H1 a = some (.ins C dx fs) ∧ fs.lookup m = none ∧ ta σ H1 fun vs H2 => sp (x :: (vs ++ dV)) H2 Q fun cls d H' => W cls d σ H'
theorem pe_methW {pl : Sem Bool} (ho : PE X o to) (c : Cls X.K C) (hm : Meth X.K C m f) (F : FnOk X.prog X.w X.K X.mg X.base (L2.CX X.prog X.w) k f fd ps sp) (hr : Room k X.A) (hb : Binds X.K fd ps ds) (hd : Vals dV ds) (tk : Takes X W) (ha : PA X (e :: es) ta)
    (hst : starEach (e :: es) X.env = (false, eval e X.env) :: starEach es X.env) (hpl : (backTo pos (starEach es X.env)).any (·.1) = false)
    (ht : eval (.Call (.Attribute o m apos) (e :: es) [] pos) X.env = (do
      let ov ← eval o X.env
      standAt apos.atName
      let (f, first) ← holding [ov] (getMethod ov m pl)
      callWith pos f first (backTo pos (starEach (e :: es) X.env)) (backToKw pos (keywordEach [] X.env)))) :
    PE X (.Call (.Attribute o m apos) (e :: es) [] pos) (tMethW W C m sp dV to ta) := by
  refine ⟨fun pins s σ H Q I h => ?_⟩
  refine PySem.W.methodCall_KW (pl := pl) (thn (ho.run pins s σ H _ I h) fun u s1 ⟨x, H1, I1, rx, a, dx, fs, ex, ea, l, q⟩ => ?_) ht
  subst ex
  obtain rfl : u = Value.ref a := rx
  refine getmeth_ok I1 ea c hm l ?_
  refine PySem.W.callWith_K (first := [.ref a]) (h₀ := X.base) I.ok.mod.kin hm.kp (thn (ha.run pos pins s1 σ H1 _ I1 q) fun us s2 ⟨vs, H2, I2, r, q2⟩ => ⟨I2.kIn, ?_⟩) hst hpl
  exact run_fnD (us := .ref a :: us) (vs := .ref a :: vs) F hr hb hd tk I2 (.cons rfl r) q2
theorem pe_methW0 {pl : Sem Bool} (ho : PE X o to) (c : Cls X.K C) (hm : Meth X.K C m f) (F : FnOk X.prog X.w X.K X.mg X.base (L2.CX X.prog X.w) k f fd ps sp) (hr : Room k X.A) (hb : Binds X.K fd ps ds) (hd : Vals dV ds) (tk : Takes X W)
    (ht : eval (.Call (.Attribute o m apos) [] [] pos) X.env = (do
      let ov ← eval o X.env
      standAt apos.atName
      let (f, first) ← holding [ov] (getMethod ov m pl)
      callWith pos f first (backTo pos (starEach [] X.env)) (backToKw pos (keywordEach [] X.env)))) :
    PE X (.Call (.Attribute o m apos) [] [] pos) (tMethW W C m sp dV to tNil) := by
  refine ⟨fun pins s σ H Q I h => ?_⟩
  refine PySem.W.methodCall_KW (pl := pl) (thn (ho.run pins s σ H _ I h) fun u s1 ⟨x, H1, I1, rx, a, dx, fs, ex, ea, l, q⟩ => ?_) ht
  subst ex
  obtain rfl : u = Value.ref a := rx
  refine getmeth_ok I1 ea c hm l ?_
  exact PySem.W.callWith_K0 (first := [.ref a]) I1.kIn hm.kp (run_fnD (us := [.ref a]) (vs := [.ref a]) F hr hb hd tk I1 (.cons rfl .nil) q)
theorem meth_of {c : Str} {n : Nat} {dvs : List MV} {mf : List MV → MH → MR MV} {mo : MEx} {ma : MLx} {σ : L2.St} {H : Hp} {Q : VK} (hC : X.mg c = some (.ref C)) (hv : ∀ γ ι H, VRs X.K X.mg γ ι H dvs dV) (h0 : TM X W (rV X) (mMeth c m n dvs mf mo ma) σ H Q) :
    tMethW W C m (spM X.K X.mg n mf) dV (TM X W (rV X) mo) (TM X W (rVs X) ma) σ H Q := by
  obtain ⟨γ, ι, l, h, s, lr, p⟩ := h0
  refine ⟨γ, ι, l, h, s, lr, p.seq (rel := rV X) fun ι1 x h1 V H1 e1 ⟨s1, r1⟩ p1 => ?_⟩
  split at p1
  · rename_i eb
    obtain ⟨a, C', dx, gs, k1, k2, k3, k4⟩ := insB_ok s1 r1 eb
    rw [hC] at k3; cases k3
    refine ⟨a, dx, gs, k1, k2, k4, γ, ι1, l, h1, s1, lr.mono (e1.grow s), p1.seq (rel := rVs X) fun ι2 xs h2 vs H2 e2 ⟨s2, r2⟩ p2 => ?_⟩
    exact spM_of (n := n) s2 (.cons (r1.mono (e2.grow s1)) (r2.append (hv _ _ _))) p2
  · exact p1.elim
theorem me_meth {pl : Sem Bool} {c : Str} {n : Nat} {dvs : List MV} {mf : List MV → MH → MR MV} {mo : MEx} {ma : MLx} (F : FnI X.prog X.w X.K X.mg X.base c m n k dvs mf) (hr : Room k X.A) (tk : Takes X W) (ho : ME X W o mo) (ha : MA X W (e :: es) ma)
    (hst : starEach (e :: es) X.env = (false, eval e X.env) :: starEach es X.env := by rfl) (hpl : (backTo pos (starEach es X.env)).any (·.1) = false := by rfl)
    (ht : eval (.Call (.Attribute o m apos) (e :: es) [] pos) X.env = (do
      let ov ← eval o X.env
      standAt apos.atName
      let (f, first) ← holding [ov] (getMethod ov m pl)
      callWith pos f first (backTo pos (starEach (e :: es) X.env)) (backToKw pos (keywordEach [] X.env))) := by rfl) : ME X W (.Call (.Attribute o m apos) (e :: es) [] pos) (mMeth c m n dvs mf mo ma) := by
  obtain ⟨C, f, fd, ps, ds, dV, hC, cl, hm, hb, hd, hv, F⟩ := F.ex
  exact peW (pe_methW ho cl hm F hr hb hd tk ha hst hpl ht) fun σ H Q h0 => meth_of hC hv h0
theorem me_meth0 {pl : Sem Bool} {c : Str} {n : Nat} {dvs : List MV} {mf : List MV → MH → MR MV} {mo : MEx} (F : FnI X.prog X.w X.K X.mg X.base c m n k dvs mf) (hr : Room k X.A) (tk : Takes X W) (ho : ME X W o mo)
    (ht : eval (.Call (.Attribute o m apos) [] [] pos) X.env = (do
      let ov ← eval o X.env
      standAt apos.atName
      let (f, first) ← holding [ov] (getMethod ov m pl)
      callWith pos f first (backTo pos (starEach [] X.env)) (backToKw pos (keywordEach [] X.env))) := by rfl) : ME X W (.Call (.Attribute o m apos) [] [] pos) (mMeth c m n dvs mf mo maNil) := by
  obtain ⟨C, f, fd, ps, ds, dV, hC, cl, hm, hb, hd, hv, F⟩ := F.ex
  refine peW (pe_methW0 ho cl hm F hr hb hd tk ht) fun σ H Q h0 => ?_
  obtain ⟨γ, ι, l, h, s, lr, p⟩ := h0
  refine ⟨γ, ι, l, h, s, lr, p.seq (rel := rV X) fun ι1 x h1 V H1 e1 ⟨s1, r1⟩ p1 => ?_⟩
  split at p1
  · rename_i eb
    obtain ⟨a, C', dx, gs, k1, k2, k3, k4⟩ := insB_ok s1 r1 eb
    rw [hC] at k3; cases k3
    exact ⟨a, dx, gs, k1, k2, k4, spM_of (n := n) s1 (.cons r1 (hv _ _ _)) p1⟩
  · exact p1.elim
/-! ### making -/
theorem run_makeW {pins : List (Addr × Obj)} {σ : L2.St} {H : Hp} {s : Shared} {Q : VK} {us : List Value} {vs : List V} (M : Mk X.K C f) (F : FnOk X.prog X.w X.K X.mg X.base (L2.CX X.prog X.w) k f fd ps sp) (hr : Room (k + 1) X.A) (hb : Binds X.K fd ps []) (tk : Takes X W)
    (I : Inv X pins σ H s) (r : Vals vs us)
    (h : ∀ x dx, H x = none → H dx = none → dx ≠ x → sp (.ref x :: vs) (upd (upd H dx (.own x)) x (.ins C dx [])) (fun v H2 => v = .non ∧ Q (.ref x) H2) fun cls d H' => W cls d σ H') :
    wpAny (model X.prog X.w) X.A (call (.ref C) us) (EP X pins σ Q) X.xe s := by
  have hq := h (s.heap.objs.size + 1) s.heap.objs.size (I.hok.fresh (Nat.le_succ _)) (I.hok.fresh (Nat.le_refl _)) (Nat.ne_of_lt (Nat.lt_succ_self _))
  have I2 := Inv.made (C := C) I
  have r2 : Vals (V.ref (s.heap.objs.size + 1) :: vs) (Value.ref (s.heap.objs.size + 1) :: us ++ []) := .cons rfl (by show Vals vs (us ++ []); rw [List.append_nil]; exact r)
  have hl : (Value.ref (s.heap.objs.size + 1) :: us ++ []).length = ps.length := by
    have e := r2.length
    rw [F.len _ _ _ _ hq] at e
    exact e.symm
  refine wpAny_call (make_map (f := f) I.kIn M.makes M.init (beq_iff_eq.mp M.fn) (codeAny_mono (F.run _ X.stack _ _ ⟨Value.ref (s.heap.objs.size + 1) :: us, []⟩ (Value.ref (s.heap.objs.size + 1) :: us ++ []) _ _ _ (hr.make C us [])
    (I2.env0.make C us []) (hb _ (Value.ref (s.heap.objs.size + 1) :: us) I2.kIn hl) r2 hq) fun r s' hq' => ?_))
  cases r with
  | error e => exact tk e s' (XE.of_call I2 (fun cls d H' z => z) hq')
  | ok fl =>
    cases fl with
    | ret u =>
      obtain ⟨v, H', I3, rv, ev, q3⟩ := I2.after hq'
      subst ev
      exact ⟨rv, ⟨V.ref (s.heap.objs.size + 1), H', I3, rfl, q3⟩⟩
    | next => exact False.elim hq'
    | brk => exact False.elim hq'
    | cont => exact False.elim hq'
theorem make_of {c : Str} {n : Nat} {mf : List MV → MH → MR MV} {γ : List Addr} {σ : L2.St} {ι : List Addr} {H : Hp} {h : MH} {xs : List MV} {vs : List V} {Q : VK} (hC : X.mg c = some (.ref C)) (s : SimH X.K X.mg γ ι H h) (r : VRs X.K X.mg γ ι H xs vs)
    (p : Post X W (rV X) γ σ (if (MV.ref h.length :: xs).length = n then (mf (.ref h.length :: xs) (h ++ [.ins c []])).bind fun v h2 => (match v with
      | .non => .ok (.ref h.length) h2
      | _ => .stuck) else .stuck) ι H Q) {x dx : Addr} (hx : H x = none) (hdx : H dx = none) (ne : dx ≠ x) :
    spM X.K X.mg n mf (.ref x :: vs) (upd (upd H dx (.own x)) x (.ins C dx [])) (fun v H2 => v = .non ∧ Q (.ref x) H2) fun cls d H' => W cls d σ H' := by
  split at p
  · rename_i hl
    obtain ⟨s1, e1⟩ := s.lay (w := .own x) hdx
    obtain ⟨s2, e2, l2⟩ := s1.alloc (p := x) (o := .ins c []) (w := .ins C dx []) (by rw [upd_ne (Ne.symm ne)]; exact hx) (.ins hC .nil)
    have e := e1.trans e2
    refine ⟨γ, _, _, _, s2, .cons (.ref l2) (r.mono (e.grow s)), hl, ?_⟩
    unfold Post at p
    generalize mf (.ref h.length :: xs) (h ++ [.ins c []]) = z at p ⊢
    cases z with
    | ok v h' =>
      intro ι' b H' e' s' rv
      cases v with
      | non =>
        cases rv
        exact ⟨rfl, p ι' (.ref x) H' (e.trans e') ⟨s', .ref ((e'.grow s2).get l2)⟩⟩
      | _ => exact p.elim
    | exn cn fs h' => exact fun ι' cls d H' e' s' xr => p ι' cls d H' (e.trans e') s' xr
    | stuck => exact p
  · exact p.elim
theorem me_make {n : Nat} {mf : List MV → MH → MR MV} {ma : MLx} (F : FnC X.prog X.w X.K X.mg X.base x n k mf) (hr : Room (k + 1) X.A) (tk : Takes X W) (ha : MA X W (e :: es) ma) (hg : Gl X x := by rfl)
    (hdb : (x == ("__debug__" : Str)) = false := by decide) (he : starEach (e :: es) X.env = (false, eval e X.env) :: starEach es X.env := by rfl) (hpl : (backTo pos (starEach es X.env)).any (·.1) = false := by rfl) :
    ME X W (.Call (.Name x p) (e :: es) [] pos) (mMake x n mf ma) := by
  obtain ⟨C, f, fd, ps, hC, M, hb, F⟩ := F.ex
  refine ⟨fun pins s σ H Q I h0 => ?_⟩
  obtain ⟨γ, ι, l, h, sm, lr, p⟩ := h0
  refine wpAny_Call_Name_kw (ld_glob I hg hC ?_ hdb)
  have h1 : TM X W (rVs X) ma σ H fun vs H1 => ∀ x dx, H1 x = none → H1 dx = none → dx ≠ x → spM X.K X.mg n mf (.ref x :: vs) (upd (upd H1 dx (.own x)) x (.ins C dx [])) (fun v H2 => v = .non ∧ Q (.ref x) H2) fun cls d H' => W cls d σ H' :=
    ⟨γ, ι, l, h, sm, lr, p.seq (rel := rVs X) fun ι1 xs h1 vs H1 e1 ⟨s1, r1⟩ p1 x dx hx hdx ne => make_of hC s1 r1 p1 hx hdx ne⟩
  refine PySem.W.callWith_K (h₀ := X.base) I.ok.mod.kin M.kp (thn (ha.run pos pins s σ H _ I h1) fun us s1 ⟨vs, H1, I1, r, q⟩ => ⟨I1.kIn, ?_⟩) he hpl
  exact run_makeW M F hr hb tk I1 r q
theorem me_make0 {n : Nat} {mf : List MV → MH → MR MV} (F : FnC X.prog X.w X.K X.mg X.base x n k mf) (hr : Room (k + 1) X.A) (tk : Takes X W) (hg : Gl X x := by rfl)
    (hdb : (x == ("__debug__" : Str)) = false := by decide) : ME X W (.Call (.Name x p) [] [] pos) (mMake x n mf maNil) := by
  obtain ⟨C, f, fd, ps, hC, M, hb, F⟩ := F.ex
  refine ⟨fun pins s σ H Q I h0 => ?_⟩
  obtain ⟨γ, ι, l, h, sm, lr, p⟩ := h0
  refine wpAny_Call_Name_kw (ld_glob I hg hC ?_ hdb)
  exact PySem.W.callWith_K0 I.kIn M.kp (run_makeW (us := []) M F hr hb tk I .nil fun x dx hx hdx ne => make_of (xs := []) hC sm .nil p hx hdx ne)
end
end ML

set_option maxRecDepth 100000
set_option maxHeartbeats 4000000
/-! ML35: sorted, len of a dict, of an instance. -/
namespace ML
open PySem PySem.Spec PyProof.Rows L2
/-! ### orders -/
def leS (a b : Str) : Bool := !ltCps b.cps.toList a.cps.toList
theorem ltC_irr : ∀ a : List Nat, ltCps a a = false
  | [] => rfl
  | a :: r => by unfold ltCps; rw [ltC_irr r]; simp
theorem ltC_asym : ∀ a b : List Nat, ltCps a b = false → ltCps b a = false → a = b
  | [], [], _, _ => rfl
  | [], _ :: _, h, _ => by cases h
  | _ :: _, [], _, h => by cases h
  | a :: r, b :: t, h1, h2 => by
    unfold ltCps at h1 h2
    simp only [Bool.or_eq_false_iff, decide_eq_false_iff_not, Bool.and_eq_false_iff, beq_eq_false_iff_ne] at h1 h2
    have e : a = b := by omega
    subst e
    rw [ltC_asym r t (h1.2.resolve_left (fun z => z rfl)) (h2.2.resolve_left (fun z => z rfl))]
theorem ltC_trans : ∀ a b c : List Nat, ltCps b a = false → ltCps c b = false → ltCps c a = false
  | [], _, [], _, _ => rfl
  | [], [], _ :: _, _, _ => rfl
  | [], _ :: _, _ :: _, _, _ => rfl
  | _ :: _, [], [], h, _ => by cases h
  | _ :: _, [], _ :: _, h, _ => by cases h
  | _ :: _, _ :: _, [], _, h => by cases h
  | a :: r, b :: t, c :: u, h1, h2 => by
    unfold ltCps at h1 h2 ⊢
    simp only [Bool.or_eq_false_iff, decide_eq_false_iff_not, Bool.and_eq_false_iff, beq_eq_false_iff_ne] at h1 h2 ⊢
    refine ⟨by omega, ?_⟩
    by_cases e : c = a
    · refine .inr ?_
      have e1 : b = a := by omega
      have e2 : c = b := by omega
      exact ltC_trans r t u (h1.2.resolve_left (fun z => z e1)) (h2.2.resolve_left (fun z => z e2))
    · exact .inl e
theorem leS_trans (a b c : Str) (h1 : leS a b = true) (h2 : leS b c = true) : leS a c = true := by
  unfold leS at *
  simp only [Bool.not_eq_true'] at *
  exact ltC_trans _ _ _ h1 h2
theorem leS_total (a b : Str) : (leS a b || leS b a) = true := by
  unfold leS
  cases h1 : ltCps b.cps.toList a.cps.toList with
  | false => rfl
  | true =>
    cases h2 : ltCps a.cps.toList b.cps.toList with
    | false => rfl
    | true =>
      exfalso
      have : ∀ a b : List Nat, ltCps a b = true → ltCps b a = true → False := by
        intro a
        induction a with
        | nil => intro b h1 h2; cases b <;> cases h1 <;> cases h2
        | cons x r ih =>
          intro b h1 h2
          cases b with
          | nil => cases h1
          | cons y t =>
            unfold ltCps at h1 h2
            simp only [Bool.or_eq_true, decide_eq_true_eq, Bool.and_eq_true, beq_iff_eq] at h1 h2
            rcases h1 with h1 | h1 <;> rcases h2 with h2 | h2 <;> try omega
            exact ih t h1.2 h2.2
      exact this _ _ h1 h2
theorem leS_anti (a b : Str) (h1 : leS a b = true) (h2 : leS b a = true) : a = b := by
  unfold leS at *
  simp only [Bool.not_eq_true'] at *
  have := ltC_asym _ _ h2 h1
  cases a; cases b; simp only [Str.mk.injEq]; exact Array.toList_inj.mp this
theorem risingS_pair : ∀ (ss : List Str) (p : Str), risingS p ss = true → (p :: ss).Pairwise (fun a b => leS a b = true)
  | [], p, _ => by simp
  | x :: r, p, h => by
    unfold risingS at h
    obtain ⟨h1, h2⟩ := Bool.and_eq_true_iff.mp h
    have ih := risingS_pair r x h2
    refine List.pairwise_cons.mpr ⟨fun y hy => ?_, ih⟩
    rcases List.mem_cons.mp hy with e | hy
    · rw [e]; exact h1
    · exact leS_trans p x y h1 ((List.pairwise_cons.mp ih).1 y hy)
theorem sortedS_pair : ∀ ss : List Str, sortedS ss = true → ss.Pairwise (fun a b => leS a b = true)
  | [], _ => .nil
  | x :: r, h => risingS_pair r x h
def sortS (zs : List Str) : List Str := zs.mergeSort leS
def sortI (ns : List Int) : List Int := ns.mergeSort (fun a b => decide (a ≤ b))
theorem sortS_eq {ys zs : List Str} (p : ys.Perm zs) (h : sortedS ys = true) : ys = sortS zs :=
  List.Perm.eq_of_pairwise (fun a b _ _ h1 h2 => leS_anti a b h1 h2) (sortedS_pair ys h) (List.pairwise_mergeSort leS_trans leS_total zs) (p.trans (List.mergeSort_perm zs leS).symm)
theorem sortI_eq {ys zs : List Int} (p : ys.Perm zs) (h : ys.Pairwise (· ≤ ·)) : ys = sortI zs := by
  have q : (sortI zs).Pairwise (· ≤ ·) := (List.pairwise_mergeSort (le := fun a b => decide (a ≤ b)) (fun a b c h1 h2 => by simp only [decide_eq_true_eq] at *; omega) (fun a b => by simp only [Bool.or_eq_true, decide_eq_true_eq]; omega) zs).imp fun h => of_decide_eq_true h
  exact List.Perm.eq_of_pairwise (fun a b _ _ (h1 : a ≤ b) (h2 : b ≤ a) => Int.le_antisymm h1 h2) h q (p.trans (List.mergeSort_perm zs _).symm)
/-! ### sorted(d) -/
def keysD (h : MH) : MV → Option (List Key)
  | .ref n => match h[n]? with
    | some (.dK kvs) => some (kvs.map (·.1))
    | some (.frz (.dK kvs)) => some (kvs.map (·.1))
    | _ => none
  | _ => none
def intKs : List Key → Option (List Int)
  | [] => some []
  | .inl i :: ks => (intKs ks).map (i :: ·)
  | .inr _ :: _ => none
def strKs : List Key → Option (List Str)
  | [] => some []
  | .inr z :: ks => (strKs ks).map (z :: ·)
  | .inl _ :: _ => none
theorem intKs_eq : ∀ {ks : List Key} {ns : List Int}, intKs ks = some ns → ks = ns.map Sum.inl
  | [], _, e => by cases e; rfl
  | .inl i :: ks, _, e => by
    obtain ⟨ns, e1, rfl⟩ := Option.map_eq_some_iff.mp e
    rw [intKs_eq e1]; rfl
  | .inr _ :: _, _, e => by cases e
theorem strKs_eq : ∀ {ks : List Key} {ns : List Str}, strKs ks = some ns → ks = ns.map Sum.inr
  | [], _, e => by cases e; rfl
  | .inr i :: ks, _, e => by
    obtain ⟨ns, e1, rfl⟩ := Option.map_eq_some_iff.mp e
    rw [strKs_eq e1]; rfl
  | .inl _ :: _, _, e => by cases e
def sortDL (xs : List MV) (h : MH) : MR (List MV) := match xs with
  | [x] => match keysD h x with
    | some ks => if ks.length < 64 then (match intKs ks with
      | some ns => .ok ((sortI ns).map .int) h
      | none => match strKs ks with
        | some zs => .ok ((sortS zs).map .str) h
        | none => .stuck) else .stuck
    | none => .stuck
  | _ => .stuck
def lenDC : MCf := fun xs h => match xs with
  | [.ref n] => (match h[n]? with
    | some (.dK kvs) => .ok (.int kvs.length) h
    | _ => .stuck)
  | _ => .stuck
section
variable {K : PySem.W.Frag} {mg : Str → Option Value} {γ ι : List Addr} {H : Hp}
theorem keysD_ok {h : MH} (s : SimH K mg γ ι H h) {x : MV} {V : L2.V} (r : VR K mg γ ι H x V) {ks : List Key} (e : keysD h x = some ks) : ∃ a vs, V = .ref a ∧ Rd H a (.dK vs) ∧ vs.map (·.1) = ks := by
  unfold keysD at e
  split at e
  · cases r with
    | ref ea =>
      split at e
      · rename_i q
        obtain ⟨w, hw, c⟩ := s.cell q ea
        cases c with
        | dK fr => cases e; exact ⟨_, _, rfl, .inl hw, fr.keyAt.symm⟩
      · rename_i q
        obtain ⟨w, hw, c⟩ := s.cell q ea
        cases c with
        | frz c => cases c with
          | dK fr => cases e; exact ⟨_, _, rfl, .inr ⟨_, hw⟩, fr.keyAt.symm⟩
      · cases e
  · cases e
theorem VRs.ofInts : ∀ ns : List Int, VRs K mg γ ι H (ns.map MV.int) (ns.map V.int)
  | [] => .nil
  | _ :: ns => .cons (.int _) (VRs.ofInts ns)
theorem VRs.ofStrs : ∀ ns : List Str, VRs K mg γ ι H (ns.map MV.str) (ns.map V.str)
  | [] => .nil
  | _ :: ns => .cons (.str _) (VRs.ofStrs ns)
end
section
variable {X : Cx} {W : WX} {pos : Pos} {p : Pos} {e : Expr} {es : List Expr} {m : MLx}
def rSortD : List V → Hp → VK → Prop := fun xs H Q => ∃ (a : Addr) (kvs : List (Key × V)), xs = [.ref a] ∧ Rd H a (.dK kvs) ∧
  ((∃ ks : List Str, kvs.map (·.1) = ks.map Sum.inr ∧ ks.length < 64 ∧ ∀ p, H p = none → Q (.ref p) (upd H p (.lst ((sortS ks).map V.str)))) ∨
   ∃ ks : List Int, kvs.map (·.1) = ks.map Sum.inl ∧ ks.length < 64 ∧ ∀ p, H p = none → Q (.ref p) (upd H p (.lst ((sortI ks).map V.int))))
theorem cr_sortD (hc : X.calm = true) : CallR X (.builtin "sorted") rSortD := by
  rintro pins s σ H xs us Q I r ⟨a, kvs, rfl, hd, q⟩
  rcases q with ⟨ks, e1, e2, q⟩ | ⟨ks, e1, e2, q⟩
  · exact call_sortedD hc pins s σ H _ us Q I r ⟨a, kvs, ks, rfl, hd, e1, e2, fun ys p h1 h2 h3 => by rw [sortS_eq h1 h2]; exact q p h3⟩
  · exact call_sortedDI hc pins s σ H _ us Q I r ⟨a, kvs, ks, rfl, hd, e1, e2, fun ys p h1 h2 h3 => by rw [sortI_eq h1 h2]; exact q p h3⟩
theorem ml_sortD (hc : X.calm = true) (hm : X.mg "sorted" = none) (ha : MA X W (e :: es) m) (hg : Gl X "sorted" := by rfl)
    (he : starEach (e :: es) X.env = (false, eval e X.env) :: starEach es X.env := by rfl) (hpl : (backTo pos (starEach es X.env)).any (·.1) = false := by rfl) :
    MLs X W (.Call (.Name "sorted" p) (e :: es) [] pos) (mCL sortDL m) :=
  peW (pe_callB (cr_sortD hc) hg hm (by decide +kernel) ha (by decide) (by decide) he hpl) fun σ H Q ⟨γ, ι, l, h, s, lr, p⟩ => ⟨γ, ι, l, h, s, lr, p.seq (rel := rVs X) fun ι1 xs h1 Vs H1 e1 ⟨s1, r1⟩ p1 => by
    unfold sortDL at p1
    split at p1
    · rename_i x
      obtain ⟨V, rfl, q1⟩ := r1.c1
      split at p1
      · rename_i ks ek
        obtain ⟨a, vs, rfl, rd, ev⟩ := keysD_ok s1 q1 ek
        split at p1
        · rename_i hl
          split at p1
          · rename_i ns en
            have e1 := intKs_eq en
            refine ⟨a, vs, rfl, rd, .inr ⟨ns, ev.trans e1, by rw [e1, List.length_map] at hl; exact hl, fun q hq => ?_⟩⟩
            obtain ⟨e, r⟩ := s1.layL hq (VRs.ofInts (sortI ns))
            exact p1.okE e r
          · split at p1
            · rename_i ns en
              have e1 := strKs_eq en
              refine ⟨a, vs, rfl, rd, .inl ⟨ns, ev.trans e1, by rw [e1, List.length_map] at hl; exact hl, fun q hq => ?_⟩⟩
              obtain ⟨e, r⟩ := s1.layL hq (VRs.ofStrs (sortS ns))
              exact p1.okE e r
            · exact p1.elim
        · exact p1.elim
      · exact p1.elim
    · exact p1.elim⟩
/-! ### len(d) -/
theorem nx_lenD (xs h) : NoX (lenDC xs h) := by
  unfold lenDC
  repeat' split
  all_goals first | exact nx_ok | exact nx_stuck
theorem cm_lenD : CallM X (.builtin "len") lenDC := by
  rintro pins s σ H Vs us Q I r ⟨γ, ι, h, xs, sm, q, p⟩
  unfold lenDC at p
  split at p
  · obtain ⟨V, rfl, q1⟩ := q.c1
    cases q1 with
    | ref ea =>
      split at p
      · rename_i kvs en
        obtain ⟨w, hw, c⟩ := sm.cell en ea
        cases c with
        | dK fr => exact call_lenD pins s σ H _ us Q I r ⟨_, _, rfl, hw, by rw [← fr.length]; exact p.ok ⟨sm, .int _⟩⟩
      · exact p.elim
  · exact p.elim
/-! ### len(o) -/
theorem run_fnA {A : Around} {pins : List (Addr × Obj)} {σ : L2.St} {H : Hp} {s : Shared} {Q : VK} {us : List Value} {vs : List V} {k : Nat} {f : Addr} {fd : FuncData} {ps : List Str} {sp : Sp} (F : FnOk X.prog X.w X.K X.mg X.base (L2.CX X.prog X.w) k f fd ps sp) (hr : Room k A) (hA : A.frames = X.A.frames) (hb : Binds X.K fd ps []) (tk : Takes X W)
    (I : Inv X pins σ H s) (r : Vals vs us) (h : sp vs H Q fun cls d H' => W cls d σ H') : wpAny (model X.prog X.w) A (call (.ref f) us) (EP X pins σ Q) X.xe s := by
  have hl : (us ++ []).length = ps.length := by rw [List.append_nil, ← r.length]; exact F.len _ _ _ _ h
  have E0 := I.env0
  refine wpAny_call (codeAny_mono (F.run A X.stack s H ⟨us, []⟩ (us ++ []) vs Q _ hr ⟨hA.trans E0.frames, E0.mod, E0.bs, E0.bsz, E0.funs, E0.frf, E0.hok, E0.bare⟩ (hb s us I.kIn hl) (by rw [List.append_nil]; exact r) h) fun r s' hq => ?_)
  cases r with
  | error e => exact tk e s' (XE.of_call I (fun cls d H' z => z) hq)
  | ok fl =>
    cases fl with
    | ret u => exact I.after hq
    | next => exact False.elim hq
    | brk => exact False.elim hq
    | cont => exact False.elim hq
theorem me_lenI {k : Nat} {c : Str} {mf : List MV → MH → MR MV} {o : Expr} {mo : MEx} (hb : X.mg "len" = none) (F : FnI X.prog X.w X.K X.mg X.base c "__len__" 1 k [] mf) (hr : Room (k + 1) X.A) (tk : Takes X W) (ho : ME X W o mo) (hg : Gl X "len" := by rfl)
    (he : starEach [o] X.env = (false, eval o X.env) :: starEach [] X.env := by rfl) (hpl : (backTo pos (starEach [] X.env)).any (·.1) = false := by rfl) : ME X W (.Call (.Name "len" p) [o] [] pos) (mLenI c mf mo) := by
  obtain ⟨C, f, fd, ps, ds, dV, hC, cl, hm, hbi, hd, hv, F⟩ := F.ex
  have hnil : ds = [] := by
    have h0 := hv [] [] (fun _ => none)
    cases h0
    cases hd; rfl
  subst hnil
  refine ⟨fun pins s σ H Q I h0 => ?_⟩
  obtain ⟨γ, ι, l, h, sm, lr, p⟩ := h0
  refine wpAny_Call_Name_kw (ld_blt (u := .builtin "len") I hg hb (by decide +kernel) ?_ (by decide) (by decide))
  have h1 : TM X W (rV X) mo σ H fun V H1 => ∃ a dx gs, V = .ref a ∧ H1 a = some (.ins C dx gs) ∧ spM X.K X.mg 1 mf [V] H1 (fun v H2 => ∃ i, v = .int i ∧ 0 ≤ i ∧ i < 2 ^ 63 ∧ Q (.int i) H2) fun cls d H' => W cls d σ H' := by
    refine ⟨γ, ι, l, h, sm, lr, p.seq (rel := rV X) fun ι1 x h1 V H1 e1 r1' p1 => ?_⟩
    obtain ⟨s1, r1⟩ := r1'
    split at p1
    · rename_i eb
      obtain ⟨a, C', dx, gs, k1, k2, k3, k4⟩ := insB_ok s1 r1 eb
      rw [hC] at k3; cases k3
      refine ⟨a, dx, gs, k1, k2, γ, ι1, h1, [x], s1, .cons r1 .nil, rfl, ?_⟩
      unfold Post at p1
      generalize mf [x] h1 = z at p1 ⊢
      cases z with
      | ok v h' =>
        intro ι' b H' e' s' rv
        cases v with
        | int i =>
          cases rv
          by_cases hi : 0 ≤ i ∧ i < 2 ^ 63
          · simp only [MR.bind_ok, if_pos hi] at p1
            exact ⟨i, rfl, hi.1, hi.2, p1 ι' _ H' e' ⟨s', .int i⟩⟩
          · simp only [MR.bind_ok, if_neg hi] at p1
        | _ => exact p1.elim
      | exn cn fs h' => exact p1
      | stuck => exact p1
    · exact p1.elim
  refine PyProof.Rows.callWith_builtin1 (thn ((ma_cons (hs := he) ho ma_nil).run pos pins s σ H (fun vs H1 => ∃ V a dx gs, vs = [V] ∧ V = .ref a ∧ H1 a = some (.ins C dx gs) ∧ spM X.K X.mg 1 mf [V] H1 (fun v H2 => ∃ i, v = .int i ∧ 0 ≤ i ∧ i < 2 ^ 63 ∧ Q (.int i) H2) fun cls d H' => W cls d σ H') I ?_) fun us s1 ⟨vs, H1, I1, r1, q1⟩ => ?_) he hpl
  · obtain ⟨γ, ι, l, h, sm, lr, p⟩ := h1
    refine ⟨γ, ι, l, h, sm, lr, ?_⟩
    show Post X W (rVs X) γ σ ((mo l h).bind fun x h1 => (MR.ok [] h1).bind fun xs h2 => .ok (x :: xs) h2) ι H _
    generalize mo l h = z at p ⊢
    cases z with
    | ok v h' =>
      intro ι' b H' e' r'
      obtain ⟨s', rv⟩ := r'
      cases rv with
      | cons ra rb =>
        cases rb
        obtain ⟨a, dx, gs, q1, q2, q3⟩ := p ι' _ H' e' ⟨s', ra⟩
        exact ⟨_, a, dx, gs, rfl, q1, q2, q3⟩
    | exn cn fs h' => exact p
    | stuck => exact p
  · obtain ⟨V, a, dx, gs, rfl, rfl, ha, q⟩ := q1
    obtain ⟨u, rfl, ru⟩ := vals1 r1
    obtain rfl : u = Value.ref a := ru
    obtain ⟨mA, O, _, _, _, _⟩ := ins_get I1.hok ha
    obtain ⟨od, J, _⟩ := O.look
    refine Calls.call_function_entry kind_len plain_len entry_len (args_len1 _) ?_
    unfold Builtin.«len»
    refine wpAny_bind (m := oneArg "len" _) (wpAny_pure ?_)
    refine wpAny_bind (m := callSpecial? (.ref a) (Str.ofString "__len__")) (PySem.W.special_fn I1.kIn J hm.at_ (beq_iff_eq.mp hm.fn) (wpAny_mono (run_fnA (A := X.A.in1) F hr.in1 rfl hbi tk I1 (.cons (show L2.RelV (.ref a) (Value.ref a) from rfl) .nil) q) (fun r s' hr' => ?_) fun _ _ y => y))
    obtain ⟨v, H2, I2, rv, i, rfl, h0, h1, q2⟩ := hr'
    obtain ⟨t, rfl⟩ := (show ∃ t, r = Value.int i t from rv)
    refine wpAny_bind (wpAny_holding (wpAny_pure ?_))
    refine wpAny_bind (wpAny_letGo ?_)
    show wpAny _ _ (if i < 0 then _ else _) _ _ _
    rw [if_neg (by omega)]
    show wpAny _ _ (if i ≥ 2 ^ 63 then _ else _) _ _ _
    rw [if_neg (by omega)]
    exact wpAny_bind (wpAny_mkInt (wpAny_pure ⟨_, rfl, ⟨.int i, H2, I2.tok _, ⟨_, rfl⟩, q2⟩⟩))
end
end ML

set_option maxRecDepth 100000
set_option maxHeartbeats 4000000
/-! ML36: the text's methods. -/
namespace ML
open PySem PySem.Spec PyProof.Rows L2
structure MtF (K : PySem.W.Frag) (mg : Str → Option Value) (c m : Str) : Prop where
  g : mg c = some (.ref (He.ga K c))
  cl : Cls K (He.ga K c)
  me : Meth K (He.ga K c) m (He.fAd K (c, some m))
structure MkF (K : PySem.W.Frag) (mg : Str → Option Value) (c : Str) : Prop where
  g : mg c = some (.ref (He.ga K c))
  m : Mk K (He.ga K c) (He.fAd K (c, some "__init__"))
section
variable {K : PySem.W.Frag} {h : Heap} {mg : Str → Option Value}
theorem mtB_ok (X : K.In h) (G : h.Ns mainGlobals mg) {c m : Str} (e : mtB c m K = true) : MtF K mg c m := by
  obtain ⟨h1, h2⟩ := Bool.and_eq_true_iff.mp e
  obtain ⟨h2, h3⟩ := Bool.and_eq_true_iff.mp h2
  exact ⟨gloB_ok X G h1, He.cls_ok h2, He.meth_ok h3⟩
theorem mkB_ok (X : K.In h) (G : h.Ns mainGlobals mg) {c : Str} (e : mkB c K = true) : MkF K mg c := by
  obtain ⟨h1, h2⟩ := Bool.and_eq_true_iff.mp e
  exact ⟨gloB_ok X G h1, He.mkr_ok h2⟩
end
section
variable {P : Program} {w : World} {K : PySem.W.Frag} {mg : Str → Option Value} {base : Heap}
/-- a method's text keeps its mini function's promise -/
theorem fnQ {nm qual : Str} {st : Stmt} {dvs : List V} {f : Addr} {fd : FuncData} {N ps : List Str} {k : Nat} {body : MSt} (F : FunD K nm qual (defArgs st) (defBody st) (defScope st) dvs [] f fd) (S : FnScope N ps (defScope st))
    (h : ∀ (cdv : Value) (A : Around) (outer : List Env) (s : Shared) (H : Hp) (E : XK), Room k (A.deeper (envOfC qual (defScope st) s.heap.objs.size f cdv)) →
        MSs (cxOf (L2.CX P w) P w K mg base N qual (defScope st) f cdv A outer s H E) (fun cls d _ H' => E cls d H') (defBody st) body) :
    FnOk P w K mg base (L2.CX P w) (k + 1) f fd ps (spM K mg ps.length (mRun N.length ps.length body)) := by
  refine F.ok S (fun vs H Q E ⟨γ, ι, h, xs, s, r, hl, q⟩ => by rw [← r.length, hl]) fun cdv A outer s H vs Q E hr ⟨γ, ι, h0, xs, s0, r, hl, q⟩ => ⟨_, h cdv A outer s H E hr, ?_⟩
  have hpl : ps.length ≤ N.length := by have := congrArg List.length S.pre; rw [List.length_take] at this; omega
  refine ⟨γ, ι, xs.map some ++ List.replicate (N.length - ps.length) none, h0, s0, ?_, ?_⟩
  · show LR K mg γ ι H _ (L2.start N vs)
    unfold L2.start
    have e : N.length - vs.length = N.length - ps.length := by rw [← r.length, hl]
    rw [e]
    exact LR.start r _
  · unfold mRun at q
    generalize body (xs.map some ++ List.replicate (N.length - ps.length) none) h0 = z at q ⊢
    cases z with
    | nx l h' => exact fun ι' σ' H' e1 s1 _ => q ι' .non H' e1 s1 .non
    | rt v h' => exact q
    | bk l h' => exact q.elim
    | ct l h' => exact q.elim
    | exn c fs l h' => exact fun ι' σ' cls d H' e1 s1 _ r1 => q ι' cls d H' e1 s1 r1
    | stuck => exact q.elim
theorem fnQ_drop {f : Addr} {fd : FuncData} {ps : List Str} {n k : Nat} {mf : List MV → MH → MR MV} (F : FnOk P w K mg base (L2.CX P w) k f fd ps (spM K mg n mf)) : FnOk P w K mg base (L2.CX P w) k f fd ps (spM K mg n (mDrop mf)) := F.imp fun _ _ _ _ q => spM_dropped q
theorem fnI_of {c m : Str} {fd : FuncData} {ps : List Str} {n k : Nat} {mf : List MV → MH → MR MV} (M : MtF K mg c m) (F : FnOk P w K mg base (L2.CX P w) k (He.fAd K (c, some m)) fd ps (spM K mg n mf)) (hb : Binds K fd ps []) : FnI P w K mg base c m n k [] mf :=
  ⟨_, _, fd, ps, [], [], M.g, M.cl, M.me, hb, .nil, fun _ _ _ => .nil, F⟩
/-- .. called with None for the last one -/
theorem fnI_non {c m : Str} {fd : FuncData} {ps : List Str} {n k : Nat} {mf : List MV → MH → MR MV} (M : MtF K mg c m) (F : FnOk P w K mg base (L2.CX P w) k (He.fAd K (c, some m)) fd ps (spM K mg n mf)) (hb : ∃ ds, Vals [V.non] ds ∧ Binds K fd ps ds) : FnI P w K mg base c m n k [.non] mf := by
  obtain ⟨ds, h1, h2⟩ := hb
  exact ⟨_, _, fd, ps, ds, [.non], M.g, M.cl, M.me, h2, h1, fun _ _ _ => .cons .non .nil, F⟩
theorem fnC_of {c : Str} {fd : FuncData} {ps : List Str} {n k : Nat} {mf : List MV → MH → MR MV} (M : MkF K mg c) (F : FnOk P w K mg base (L2.CX P w) k (He.fAd K (c, some "__init__")) fd ps (spM K mg n mf)) (hb : Binds K fd ps []) : FnC P w K mg base c n k mf :=
  ⟨_, _, fd, ps, M.g, M.m, hb, F⟩
/-- every parameter written, though one has a default -/
theorem binds_full {x qual : Str} {params : Arguments} {body : List Stmt} {scope : Scope} {f : Addr} {fd : FuncData} {ps : List Str} (F : FunD K x qual params body scope [V.non] [] f fd)
    (h : ∀ (T : Addr) (kV doc pm : Value) (an : Option Addr) (cdv ct : Value) (us its : List Value), us.length = ps.length → its.length = 1 →
      ∃ k, bindArgs (PySem.W.fnOf x qual params body scope (.ref T) kV doc pm an cdv ct) ⟨us, []⟩ = seqItems? (.ref T) >>= k ∧ k (some its.toArray) = pure (ps.zip (us ++ its.drop 1))) : Binds K fd ps [] := by
  obtain ⟨ds, h1, h2⟩ := FunD.binds1 (ps := ps) F ps.length 1 (by simp) (by simp) h
  have : ds = [] := by
    have h1 : Vals [] ds := h1
    cases h1; rfl
  subst this
  exact h2
end
end ML
namespace ML
/-- whose cell is locked: what an expression tells -/
def lkE (m : MEx) : Loc → MH → Option Nat := fun l h => match m l h with
  | .ok (.ref n) _ => some n
  | _ => none
end ML

set_option maxRecDepth 100000
/-! ML37: weakest preconditions: instances. -/
namespace ML
open PySem PySem.Spec PyProof.Rows L2
section
variable {l : Loc} {h : MH} {N : Loc → MH → Prop} {P : Po} {E : PE'} {Q : MV → MH → Prop} {QL : List MV → MH → Prop}
theorem wp_FldI {f : Str} {cs : List Str} {a : MEx} (o : okR (a l h) (fun v h1 => okR (fldI f cs v h1) Q E) E) : okR (mFldI f cs a l h) Q E := okR_bind o
theorem wp_fldI {f c : Str} {cs : List Str} {n : Nat} {fs : List (Str × MV)} {y : MV} (e : h[n]? = some (.ins c fs)) (hc : c ∈ cs) (el : fs.lookup f = some y) (q : Q y h) : okR (fldI f cs (.ref n) h) Q E := by
  unfold fldI; dsimp only; rw [e]; dsimp only; rw [if_pos hc, el]; exact ⟨q⟩
theorem wp_SetF {f : Str} {cs : List Str} {o v : MEx} (k : okR (v l h) (fun y h1 => okR (o l h1) (fun x h2 => ∃ h3, setI f cs x y h2 = some h3 ∧ N l h3) fun c fs h => P.E c fs l h) fun c fs h => P.E c fs l h) : okS (mSetF f cs o v l h) N P := by
  refine okR_toS (okR_mono k ?_ fun _ _ _ q => q)
  intro y h1 k
  refine okR_toS (okR_mono k ?_ fun _ _ _ q => q)
  rintro x h2 ⟨h3, e, q⟩
  rw [e]; exact ⟨q⟩
theorem setI_eq {f c : Str} {cs : List Str} {n : Nat} {fs : List (Str × MV)} {y : MV} (e : h[n]? = some (.ins c fs)) (hc : c ∈ cs) (hl : fs.length < 1000) : setI f cs (.ref n) y h = some (h.set n (.ins c (putFM f y fs))) := by
  unfold setI; dsimp only; rw [e]; dsimp only; rw [if_pos ⟨hc, hl⟩]
theorem wp_AugF {op : Int → Int → Int} {f : Str} {cs : List Str} {o v : MEx} (k : okR (o l h) (fun x h1 => ∃ c i, clsI f cs x h1 = some (c, i) ∧ okR (v l h1) (fun b h2 => ∃ j h3, b = .int j ∧ setI f [c] x (.int (op i j)) h2 = some h3 ∧ N l h3) fun c fs h => P.E c fs l h) fun c fs h => P.E c fs l h) : okS (mAugF op f cs o v l h) N P := by
  refine okR_toS (okR_mono k ?_ fun _ _ _ q => q)
  rintro x h1 ⟨c, i, e, k⟩
  rw [e]
  refine okR_toS (okR_mono k ?_ fun _ _ _ q => q)
  rintro b h2 ⟨j, h3, rfl, e, q⟩
  dsimp only
  rw [e]; exact ⟨q⟩
theorem clsI_eq {f c : Str} {cs : List Str} {n : Nat} {fs : List (Str × MV)} {i : Int} (e : h[n]? = some (.ins c fs)) (hc : c ∈ cs) (el : fs.lookup f = some (.int i)) : clsI f cs (.ref n) h = some (c, i) := by
  unfold clsI; dsimp only; rw [e]; dsimp only; rw [if_pos hc, el]
theorem wp_Meth {c m : Str} {n : Nat} {dvs : List MV} {mf : List MV → MH → MR MV} {o : MEx} {a : MLx} (k : okR (o l h) (fun x h1 => insB c m x h1 = true ∧ okR (a l h1) (fun xs h2 => (x :: (xs ++ dvs)).length = n ∧ okR (mf (x :: (xs ++ dvs)) h2) Q E) E) E) : okR (mMeth c m n dvs mf o a l h) Q E := by
  refine okR_bind (okR_mono k ?_ fun _ _ _ q => q)
  rintro x h1 ⟨e, k⟩
  rw [if_pos e]
  refine okR_bind (okR_mono k ?_ fun _ _ _ q => q)
  rintro xs h2 ⟨e, k⟩
  rw [if_pos e]
  exact k
theorem insB_eq {c m : Str} {n : Nat} {fs : List (Str × MV)} (e : h[n]? = some (.ins c fs)) (el : fs.lookup m = none) : insB c m (.ref n) h = true := by
  unfold insB; dsimp only; rw [e]; dsimp only; rw [el]; simp
theorem wp_Make {c : Str} {n : Nat} {mf : List MV → MH → MR MV} {a : MLx} (k : okR (a l h) (fun xs h1 => xs.length + 1 = n ∧ okR (mf (.ref h1.length :: xs) (h1 ++ [.ins c []])) (fun v h2 => v = .non ∧ Q (.ref h1.length) h2) E) E) : okR (mMake c n mf a l h) Q E := by
  refine okR_bind (okR_mono k ?_ fun _ _ _ q => q)
  rintro xs h1 ⟨e, k⟩
  rw [if_pos (by simpa using e)]
  refine okR_bind (okR_mono k ?_ fun _ _ _ q => q)
  rintro v h2 ⟨rfl, q⟩
  exact ⟨q⟩
theorem wp_LenI {c : Str} {mf : List MV → MH → MR MV} {o : MEx} (k : okR (o l h) (fun x h1 => insB c "__len__" x h1 = true ∧ okR (mf [x] h1) (fun v h2 => ∃ i, v = .int i ∧ 0 ≤ i ∧ i < 2 ^ 63 ∧ Q (.int i) h2) E) E) : okR (mLenI c mf o l h) Q E := by
  refine okR_bind (okR_mono k ?_ fun _ _ _ q => q)
  rintro x h1 ⟨e, k⟩
  rw [if_pos e]
  refine okR_bind (okR_mono k ?_ fun _ _ _ q => q)
  rintro v h2 ⟨i, rfl, h0, h1, q⟩
  dsimp only
  rw [if_pos ⟨h0, h1⟩]
  exact ⟨q⟩
theorem wp_lenD {n : Nat} {kvs : List (Key × MV)} (e : h[n]? = some (.dK kvs)) (q : Q (.int kvs.length) h) : okR (lenDC [.ref n] h) Q E := by
  unfold lenDC; dsimp only; rw [e]; exact ⟨q⟩
theorem keysD_dK {n : Nat} {kvs : List (Key × MV)} (e : h[n]? = some (.dK kvs)) : keysD h (.ref n) = some (kvs.map (·.1)) := by unfold keysD; dsimp only; rw [e]
theorem intKs_of : ∀ ns : List Int, intKs (ns.map Sum.inl) = some ns
  | [] => rfl
  | n :: ns => by rw [List.map_cons]; unfold intKs; rw [intKs_of ns]; rfl
theorem strKs_of : ∀ ns : List Str, strKs (ns.map Sum.inr) = some ns
  | [] => rfl
  | n :: ns => by rw [List.map_cons]; unfold strKs; rw [strKs_of ns]; rfl
/-- sorted(d), the keys ints -/
theorem wp_sortDI {x : MV} {ns : List Int} (e : keysD h x = some (ns.map Sum.inl)) (hl : ns.length < 64) (q : QL ((sortI ns).map .int) h) : okR (sortDL [x] h) QL E := by
  unfold sortDL; dsimp only; rw [e]; dsimp only; rw [if_pos (by rw [List.length_map]; exact hl), intKs_of]; exact ⟨q⟩
/-- .. texts -/
theorem wp_sortDS {x : MV} {z : Str} {ns : List Str} (e : keysD h x = some ((z :: ns).map Sum.inr)) (hl : (z :: ns).length < 64) (q : QL ((sortS (z :: ns)).map .str) h) : okR (sortDL [x] h) QL E := by
  unfold sortDL; dsimp only; rw [e]; dsimp only; rw [if_pos (by rw [List.length_map]; exact hl), strKs_of]; exact ⟨q⟩
end
end ML

set_option maxRecDepth 100000
set_option maxHeartbeats 4000000
/-! ML38: dicts of any keys: d[k], d[k] = v, d.pop(k), len(d), whatever stands in the cell. -/
namespace ML
open PySem PySem.Spec PyProof.Rows L2
theorem DNP.hash {a : Addr} {xs : List (NestedKey × Addr × Value)} {h : Heap} (p : DNP a xs h) : ∀ x ∈ xs, ∀ w w' : World, x.1.hash w = x.1.hash w' := by
  obtain ⟨_, _, _, o, es, ep, _, _, _, h7⟩ := p
  intro x hx w w'
  have e := (h7 w).symm.trans (h7 w')
  have := (List.map_inj_left.mp e) x hx
  injection this
theorem dn_new {P : Program} {w0 : World} {h' : Heap} {a : Addr} {xs : List (NestedKey × Addr × Value)} (hl : xs.length ≤ sizeLine) (hd : (a == sysModules) = false) (dd : h'.DictOfH (nestedKind P w0) a xs) (hh : ∀ x ∈ xs, ∀ w w' : World, x.1.hash w = x.1.hash w') : DNP a xs h' := by
  obtain ⟨o, es, ep, h1, h2, h3, h4, _, h6⟩ := dd
  refine ⟨hl, hd, h6, o, es, ep, h1, h2, h3, fun w => ?_⟩
  rw [h4]
  refine List.map_congr_left fun x hx => ?_
  show (⟨x.1.hash w0, _, _⟩ : DictEntry) = _
  rw [hh x hx w0 w]
theorem dn_ok {P : Program} {w : World} {H : Hp} {h' : Heap} {a : Addr} {xs : List (NestedKey × Addr × Value)} (p : DNP a xs h') : ObjOk P w H h' a (.ext (DNP a xs)) := by
  refine ⟨p, ?_, fun h1 h2 q k => ?_⟩
  · obtain ⟨_, _, _, o, es, ep, h1, _⟩ := p
    exact ⟨o, h1⟩
  · obtain ⟨q1, q2, q3, o, es, ep, q4, q5⟩ := q
    exact ⟨q1, q2, q3, o, es, ep, k o q4, q5⟩
section
variable {X : Cx} {pins : List (Addr × Obj)} {σ : L2.St} {H : Hp} {s : Shared} {γ ι : List Addr} {A : Around} {E : Value → Shared → Prop}
theorem isDN_at (I : L2.Inv X pins σ H s) {a : Addr} {xs : List (NestedKey × Addr × Value)} (e : Rd H a (.ext (DNP a xs))) : s.TypeIs (.ref a) "dict" ∧ (∀ b, Value.ref a = .ref b → ∃ ob, s.heap.get? b = some ob ∧ ob.dict = none) := by
  obtain ⟨h1, h2, h3, o, es, ep, h4, h5, h6, h7⟩ : DNP a xs s.heap := (e.ok I.hok).1
  exact ⟨⟨o, h4, h5.1⟩, fun b q => by cases q; exact ⟨o, h4, h5.2.1⟩⟩
/-- what a key of a dict of nested keys is -/
structure KeyN (X : Cx) (H : Hp) (k : NestedKey) (p : Addr) : Prop where
  ex : ∃ γ ι x, keyOf x = some k ∧ k.depth ≤ 8 ∧ VR X.K X.mg γ ι H x (.ref p)
theorem KeyN.is (I : L2.Inv X pins σ H s) {k : NestedKey} {p : Addr} (q : KeyN X H k p) : (nestedKind X.prog X.w).is s.heap k p := by
  obtain ⟨γ, ι, x, h1, h2, h3⟩ := q.ex
  exact ⟨nested_is I k (V := .ref p) (by rw [mvOf_key x k h1]; exact h3) rfl, h2⟩
theorem KeyN.hash {k : NestedKey} {p : Addr} (q : KeyN X H k p) (w w' : World) : k.hash w = k.hash w' := by
  obtain ⟨γ, ι, x, h1, h2, h3⟩ := q.ex
  exact hash_free x k w w' h1
/-! ### d[k] -/
def rDN (X : Cx) : R2 := fun x y H Q => ∃ a p xs k u v, x = .ref a ∧ y = .ref p ∧ Rd H a (.ext (DNP a xs)) ∧ (∃ γ ι kvs, NR X.K X.mg γ ι H kvs xs) ∧ KeyN X H k p ∧ (∃ q, atKey xs k = some (q, u)) ∧ RelV v u ∧ Q v H
theorem ix_dN (hu : X.A.units + 100 < cLine) : IxR X (rDN X) := by
  intro value slice pins s σ H x y v u Q I rx ry ⟨a, p, xs, k, z, w, ex, ey, g, ⟨γ, ι, kvs, nr⟩, kn, ⟨q0, hk⟩, rw', q⟩ hs
  subst ex ey
  obtain rfl : v = Value.ref a := rx
  obtain rfl : u = Value.ref p := ry
  obtain ⟨g1, g2, g3⟩ := nr.at I g
  exact tail_any (isDN_at I g).1 PySem.F.slot_dict_getitem.lookup (wpAny_getItem_heap (knd := nestedKind X.prog X.w) (k := k) (show X.A.in1.units + 8 < cLine by show X.A.units + 1 + 8 < cLine; omega) (kn.is I) g3 hk ⟨w, H, I.tok _, rw', q⟩) hs
theorem ix_or {r1 r2 : R2} (h1 : IxR X r1) (h2 : IxR X r2) : IxR X (fun x y H Q => r1 x y H Q ∨ r2 x y H Q) := by
  intro value slice pins s σ H x y v u Q I rx ry h hs
  exact h.elim (fun h => h1 value slice pins s σ H x y v u Q I rx ry h hs) (fun h => h2 value slice pins s σ H x y v u Q I rx ry h hs)
/-! ### d[k] = v -/
def rSetN (X : Cx) : TSet := fun o i v H Q => ∃ a p xs k, o = .ref a ∧ i = .ref p ∧ H a = some (.ext (DNP a xs)) ∧ (∃ γ ι kvs, NR X.K X.mg γ ι H kvs xs) ∧ KeyN X H k p ∧ xs.length < sizeLine ∧ ∀ r, RelV v r → Q (upd H a (.ext (DNP a (storedH xs k p r))))
theorem storedH_len {α : Type} [DecidableEq α] (xs : List (α × Addr × Value)) (k : α) (a : Addr) (v : Value) : (storedH xs k a v).length ≤ xs.length + 1 := by
  unfold storedH; split <;> simp
theorem storedH_mem {α : Type} [DecidableEq α] {xs : List (α × Addr × Value)} {k : α} {a : Addr} {v : Value} {x : α × Addr × Value} (h : x ∈ storedH xs k a v) : (∃ y ∈ xs, y.1 = x.1) ∨ x.1 = k := by
  unfold storedH at h
  split at h
  · obtain ⟨y, hy, rfl⟩ := List.mem_map.mp h
    left
    exact ⟨y, hy, by unfold putAt; split <;> rfl⟩
  · rcases List.mem_append.mp h with h | h
    · exact .inl ⟨x, h, rfl⟩
    · simp at h; exact .inr (by rw [h])
theorem set_dn (hu : X.A.units + 100 < cLine) : PSet X (rSetN X) := by
  intro pins s σ H o i v ov iv u Q I ro ri rv ⟨a, p, xs, k, eo, ei, e, ⟨γ, ι, kvs, nr⟩, kn, hl, q⟩
  subst eo ei
  obtain rfl : ov = Value.ref a := ro
  obtain rfl : iv = Value.ref p := ri
  obtain ⟨g1, g2, g3⟩ := nr.at I (.inl e)
  have hdn : DNP a xs s.heap := (Rd.ok (.inl e) I.hok).1
  refine wpAny_setItem_heap (hsz := by omega) (knd := nestedKind X.prog X.w) (k := k) (show X.A.in1.units + 8 < cLine by show X.A.units + 1 + 8 < cLine; omega) (kn.is I) g3 fun h' dd' hs => ⟨_, ?_, q u rv⟩
  have hnew : DNP a (storedH xs k p u) h' := dn_new (by have := storedH_len xs k p u; omega) g2 dd' fun x hx w w' => by
    rcases storedH_mem hx with ⟨y, hy, ey⟩ | ek
    · rw [← ey]; exact hdn.hash y hy w w'
    · rw [ek]; exact kn.hash w w'
  obtain ⟨_, _, _, o, es, ep, h4, _⟩ := id hnew
  exact d_write I (by rw [e]; exact True.intro) hs ⟨o, h4⟩ (dn_ok hnew)
theorem set_or {t1 t2 : TSet} (h1 : PSet X t1) (h2 : PSet X t2) : PSet X (fun o i v H Q => t1 o i v H Q ∨ t2 o i v H Q) := by
  intro pins s σ H o i v ov iv u Q I ro ri rv h
  exact h.elim (fun h => h1 pins s σ H o i v ov iv u Q I ro ri rv h) (fun h => h2 pins s σ H o i v ov iv u Q I ro ri rv h)
/-! ### d.pop(k) -/
def rPopN (X : Cx) : V → List V → Hp → VK → Prop := fun x ys H Q => ∃ a p xs k u v, x = .ref a ∧ ys = [.ref p] ∧ H a = some (.ext (DNP a xs)) ∧ (∃ γ ι kvs, NR X.K X.mg γ ι H kvs xs) ∧ KeyN X H k p ∧ (∃ q, atKey xs k = some (q, u)) ∧ RelV v u ∧ Q v (upd H a (.ext (DNP a (withoutH xs k))))
theorem withoutH_sub {α : Type} [DecidableEq α] (xs : List (α × Addr × Value)) (k : α) : (withoutH xs k).Sublist xs := by
  unfold withoutH; exact List.filter_sublist
theorem mt_popN (hu : X.A.units + 100 < cLine) : MtR X "dict.pop" (rPopN X) := by
  intro pins s σ H x ys v us Q I rx rxs ⟨a, p, xs, k, z, w, ex, ey, e, ⟨γ, ι, kvs, nr⟩, kn, ⟨q0, hk⟩, rw', q⟩
  subst ex ey
  obtain rfl : v = Value.ref a := rx
  obtain rfl := Vals.ref1 rxs
  obtain ⟨g1, g2, g3⟩ := nr.at I (.inl e)
  have hdn : DNP a xs s.heap := (Rd.ok (.inl e) I.hok).1
  refine call_pop_heap (hsz := g1) (knd := nestedKind X.prog X.w) (k := k) (.inl rfl) (PySem.F.args_dict_pop_2 _ _) (show X.A.in1.units + 8 < cLine by show X.A.units + 1 + 8 < cLine; omega) (kn.is I) g2 g3 hk fun h' dd' hs => ?_
  have hnew : DNP a (withoutH xs k) h' := dn_new (Nat.le_trans (withoutH_sub xs k).length_le g1) g2 dd' fun x hx w w' => hdn.hash x ((withoutH_sub xs k).subset hx) w w'
  obtain ⟨_, _, _, o, es, ep, h4, _⟩ := id hnew
  exact ⟨w, _, d_write I (by rw [e]; exact True.intro) hs ⟨o, h4⟩ (dn_ok hnew), rw', q⟩
end
/-! ### the pairs -/
section
variable {K : PySem.W.Frag} {mg : Str → Option Value} {γ ι : List Addr} {H : Hp}
theorem NR.length {kvs : List (NestedKey × MV)} {xs : List (NestedKey × Addr × Value)} (r : NR K mg γ ι H kvs xs) : kvs.length = xs.length := by
  induction r with
  | nil => rfl
  | cons _ _ _ _ _ ih => rw [List.length_cons, List.length_cons, ih]
theorem NR.repl {kvs : List (NestedKey × MV)} {xs : List (NestedKey × Addr × Value)} (r : NR K mg γ ι H kvs xs) (k : NestedKey) {y : MV} {v : V} {u : Value} (q : VR K mg γ ι H y v) (qu : RelV v u) :
    NR K mg γ ι H (kvs.map fun kv => if kv.1 = k then (kv.1, y) else kv) (xs.map (putAt k u)) := by
  induction r with
  | nil => exact .nil
  | @cons y' v' u' j p kvs xs a b c d e ih =>
    rw [List.map_cons, List.map_cons]
    unfold putAt
    dsimp only
    by_cases h : j = k
    · rw [if_pos h, if_pos h]; exact .cons a b q qu ih
    · rw [if_neg h, if_neg h]; exact .cons a b c d ih
theorem NR.snoc {kvs : List (NestedKey × MV)} {xs : List (NestedKey × Addr × Value)} (r : NR K mg γ ι H kvs xs) {k : NestedKey} {p : Addr} {y : MV} {v : V} {u : Value} (hd : k.depth ≤ 8) (rp : VR K mg γ ι H (mvOf k) (.ref p)) (q : VR K mg γ ι H y v) (qu : RelV v u) :
    NR K mg γ ι H (kvs ++ [(k, y)]) (xs ++ [(k, p, u)]) := by
  induction r with
  | nil => exact .cons hd rp q qu .nil
  | cons a b c d e ih => exact .cons a b c d ih
theorem NR.put {kvs : List (NestedKey × MV)} {xs : List (NestedKey × Addr × Value)} (r : NR K mg γ ι H kvs xs) {k : NestedKey} {p : Addr} {y : MV} {v : V} {u : Value} (hd : k.depth ≤ 8) (rp : VR K mg γ ι H (mvOf k) (.ref p)) (q : VR K mg γ ι H y v) (qu : RelV v u) :
    NR K mg γ ι H (putM kvs k y) (storedH xs k p u) := by
  unfold putM storedH
  rcases r.val k with ⟨e1, e2⟩ | ⟨y', p', u', v', e1, e2, _⟩
  · rw [e1, e2]; exact r.snoc hd rp q qu
  · rw [e1, e2]; exact r.repl k q qu
theorem NR.drop {kvs : List (NestedKey × MV)} {xs : List (NestedKey × Addr × Value)} (r : NR K mg γ ι H kvs xs) (k : NestedKey) : NR K mg γ ι H (dropM kvs k) (withoutH xs k) := by
  unfold dropM withoutH
  induction r with
  | nil => exact .nil
  | @cons y' v' u' j p kvs xs a b c d e ih =>
    rw [List.filter_cons, List.filter_cons]
    dsimp only
    by_cases h : j = k
    · rw [decide_eq_false (fun z => z h)]; exact ih
    · rw [decide_eq_true h]; exact .cons a b c d ih
end
/-! ### the mini ops -/
def dNof (h : MH) (x : MV) : Option (List (NestedKey × MV)) := match x with
  | .ref n => match h[n]? with
    | some (.dN kvs) => some kvs
    | some (.frz (.dN kvs)) => some kvs
    | _ => none
  | _ => none
/-- x[y] of a list, a tuple, a text, a dict -/
def ixA : MOp := fun x y h => match dNof h x with
  | some kvs => (match (keyT y).bind (lookM kvs) with
    | some v => .ok v h
    | none => .stuck)
  | none => if isDD h x then ixDO x y h else ixO x y h
section
variable {X : Cx} {W : WX} {pos : Pos}
theorem dNof_ok {γ ι : List Addr} {H : Hp} {h : MH} (s : SimH X.K X.mg γ ι H h) {x : MV} {V : L2.V} (r : VR X.K X.mg γ ι H x V) {kvs : List (NestedKey × MV)} (e : dNof h x = some kvs) :
    ∃ a xs, V = .ref a ∧ Rd H a (.ext (DNP a xs)) ∧ NR X.K X.mg γ ι H kvs xs := by
  unfold dNof at e
  split at e
  · cases r with
    | ref ea =>
      split at e
      · rename_i q
        cases e
        obtain ⟨w, hw, c⟩ := s.cell q ea
        cases c with
        | dN nr => exact ⟨_, _, rfl, .inl hw, nr⟩
      · rename_i q
        cases e
        obtain ⟨w, hw, c⟩ := s.cell q ea
        cases c with
        | frz c => cases c with
          | dN nr => exact ⟨_, _, rfl, .inr ⟨_, hw⟩, nr⟩
      · cases e
  · cases e
theorem keyT_at {γ ι : List Addr} {H : Hp} {y : MV} {V : L2.V} (r : VR X.K X.mg γ ι H y V) {k : NestedKey} (e : keyT y = some k) : ∃ p, V = .ref p ∧ KeyN X H k p := by
  obtain ⟨k1, k2, ys, rfl⟩ := keyT_ok e
  obtain ⟨p, rfl⟩ := r.refT
  exact ⟨p, rfl, ⟨γ, ι, _, k1, k2, r⟩⟩
/-! ### one of two -/
theorem me_choose {e : Expr} {m m1 m2 : MEx} (h1 : ME X W e m1) (h2 : ME X W e m2) (hm : ∀ l h, m l h = m1 l h ∨ m l h = m2 l h) : ME X W e m := by
  refine ⟨fun pins s σ H Q I ⟨γ, ι, l, h, sm, lr, p⟩ => ?_⟩
  rcases hm l h with z | z
  · rw [z] at p; exact PE.run h1 pins s σ H Q I ⟨γ, ι, l, h, sm, lr, p⟩
  · rw [z] at p; exact PE.run h2 pins s σ H Q I ⟨γ, ι, l, h, sm, lr, p⟩
theorem ms_choose {e : Stmt} {m m1 m2 : MSt} (h1 : MSj X W e m1) (h2 : MSj X W e m2) (hm : ∀ l h, m l h = m1 l h ∨ m l h = m2 l h) : MSj X W e m := by
  refine ⟨fun pins s σ H D I ⟨γ, ι, l, h, sm, lr, p⟩ => ?_⟩
  rcases hm l h with z | z
  · rw [z] at p; exact PS.run h1 pins s σ H D I ⟨γ, ι, l, h, sm, lr, p⟩
  · rw [z] at p; exact PS.run h2 pins s σ H D I ⟨γ, ι, l, h, sm, lr, p⟩
theorem mi_choose {tg e : Expr} {m m1 m2 : MLx} (h1 : MI X W tg e m1) (h2 : MI X W tg e m2) (hm : ∀ l h, m l h = m1 l h ∨ m l h = m2 l h) : MI X W tg e m := by
  refine ⟨fun pins s σ H R I ⟨γ, ι, l, h, sm, lr, p⟩ => ?_⟩
  rcases hm l h with z | z
  · rw [z] at p; exact PI.run h1 pins s σ H R I ⟨γ, ι, l, h, sm, lr, p⟩
  · rw [z] at p; exact PI.run h2 pins s σ H R I ⟨γ, ι, l, h, sm, lr, p⟩
theorem mOp_choose {f f1 f2 : MOp} {ma mb : MEx} (hf : ∀ x y h, f x y h = f1 x y h ∨ f x y h = f2 x y h) (l : Loc) (h : MH) : mOp f ma mb l h = mOp f1 ma mb l h ∨ mOp f ma mb l h = mOp f2 ma mb l h := by
  unfold mOp
  cases ma l h with
  | ok x h1 =>
    simp only [MR.bind_ok]
    cases mb l h1 with
    | ok y h2 => simp only [MR.bind_ok]; exact hf x y h2
    | exn c fs h => exact .inl rfl
    | stuck => exact .inl rfl
  | exn c fs h => exact .inl rfl
  | stuck => exact .inl rfl
/-- d[k], the keys nested tuples -/
def ixNO : MOp := fun x y h => match dNof h x with
  | some kvs => (match (keyT y).bind (lookM kvs) with
    | some v => .ok v h
    | none => .stuck)
  | none => .stuck
theorem me_ixN {a b : Expr} {ma mb : MEx} (hu : X.A.units + 100 < cLine) (ha : ME X W a ma) (hb : ME X W b mb) (hs : PlainIx b := by exact fun _ _ => rfl) : ME X W (.Subscript a b pos) (mOp ixNO ma mb) :=
  peW (pe_ix (ix_dN hu) ha hb hs) fun σ H Q h => bin_of h fun γ ι h x y V1 V2 H s r1 r2 p => by
    unfold ixNO at p
    split at p
    · rename_i kvs e
      obtain ⟨a, xs, rfl, rd, nr⟩ := dNof_ok s r1 e
      split at p
      · rename_i v e2
        obtain ⟨k, e3, e4⟩ := Option.bind_eq_some_iff.mp e2
        obtain ⟨q, rfl, kn⟩ := keyT_at r2 e3
        rcases nr.val k with ⟨z, _⟩ | ⟨y', p', u', v', z, z2, rl, rv⟩
        · rw [e4] at z; cases z
        · rw [e4] at z; cases z
          exact ⟨a, q, xs, k, u', v', rfl, rfl, rd, ⟨γ, ι, kvs, nr⟩, kn, ⟨p', z2⟩, rl, p.ok ⟨s, rv⟩⟩
      · exact p.elim
    · exact p.elim
theorem nx_ixA (x y h) : NoX (ixA x y h) := by
  unfold ixA
  repeat' split
  all_goals first | exact nx_ok | exact nx_stuck | exact nx_ix _ _ _ | (unfold ixDO; split <;> first | exact nx_ok | exact nx_stuck)
theorem me_ixA {a b : Expr} {ma mb : MEx} (hu : X.A.units + 100 < cLine) (ha : ME X W a ma) (hb : ME X W b mb) (hs : PlainIx b := by exact fun _ _ => rfl) : ME X W (.Subscript a b pos) (mOp ixA ma mb) :=
  me_choose (me_ixN hu ha hb hs) (me_choose (m := mOp (fun x y h => if isDD h x then ixDO x y h else ixO x y h) ma mb) (me_ixD (by omega) ha hb hs) (me_ix ha hb hs) (mOp_choose fun x y h => by split <;> simp)) (mOp_choose fun x y h => by
    unfold ixA ixNO
    split
    · exact .inl rfl
    · exact .inr rfl)
/-! ### x[k] = v -/
def mSet3 (f : MV → MV → MV → MH → MR Unit) (a b e : MEx) : MSt := fun l h => (e l h).toS l fun v h1 => (a l h1).toS l fun x h2 => (b l h2).toS l fun y h3 => (f x y v h3).toS l fun _ h4 => .nx l h4
def setN (x y v : MV) (h : MH) : MR Unit := match x with
  | .ref n => match h[n]?, keyT y with
    | some (.dN kvs), some k => if kvs.length < 16777216 then .ok () (h.set n (.dN (putM kvs k v))) else .stuck
    | _, _ => .stuck
  | _ => .stuck
def setA (x y v : MV) (h : MH) : MR Unit := match x with
  | .ref n => match h[n]? with
    | some (.lst _) => setO x y v h
    | some (.dN _) => setN x y v h
    | _ => setK x y v h
  | _ => .stuck
theorem mSet3_choose {f f1 f2 : MV → MV → MV → MH → MR Unit} {a b e : MEx} (hf : ∀ x y v h, f x y v h = f1 x y v h ∨ f x y v h = f2 x y v h) (l : Loc) (h : MH) : mSet3 f a b e l h = mSet3 f1 a b e l h ∨ mSet3 f a b e l h = mSet3 f2 a b e l h := by
  unfold mSet3
  cases e l h with
  | ok v h1 =>
    simp only [MR.toS]
    cases a l h1 with
    | ok x h2 =>
      simp only
      cases b l h2 with
      | ok y h3 => simp only; rcases hf x y v h3 with z | z <;> rw [z] <;> simp
      | exn c fs h => exact .inl rfl
      | stuck => exact .inl rfl
    | exn c fs h => exact .inl rfl
    | stuck => exact .inl rfl
  | exn c fs h => exact .inl rfl
  | stuck => exact .inl rfl
theorem ms_setN {a b e : Expr} {ma mb mv : MEx} {tpos : Pos} (hu : X.A.units + 100 < cLine) (ha : ME X W a ma) (hb : ME X W b mb) (he : ME X W e mv) (hs : swapsWithSole [.Subscript a b tpos] e pos.line X.env = pure false := by rfl) (hw : swappedStores [.Subscript a b tpos] e X.env = pure none := by rfl)
    (h1 : (assignEach [.Subscript a b tpos] X.env).map (·.2) = [assign (.Subscript a b tpos) X.env] := by rfl)
    (hg : ∀ v, assign (.Subscript a b tpos) X.env v = (do
      let ov ← holding [v] (eval a X.env)
      let iv ← holding [v, ov] (eval b X.env)
      standAt tpos
      holding [v, ov, iv] (setItem ov iv v)
      release [v, ov, iv] []) := by intro _; rfl) : MSj X W (.Assign [.Subscript a b tpos] e pos) (mSet3 setN ma mb mv) :=
  psW (ps_asg he (pg_sub ha hb (set_dn hu) hg) hs hw h1) fun D σ H ⟨γ, ι, l, h, s, lr, p⟩ => ⟨γ, ι, l, h, s, lr, PostS.run (rel := rV X) s lr p fun ι1 v h1 V H1 e1 lr1 ⟨s1, r1⟩ p1 =>
    ⟨γ, ι1, l, h1, s1, lr1, PostS.run (rel := rV X) s1 lr1 p1 fun ι2 x h2 V2 H2 e2 lr2 ⟨s2, r2⟩ p2 =>
    ⟨γ, ι2, l, h2, s2, lr2, PostS.run (rel := rV X) s2 lr2 p2 fun ι3 y h3 V3 H3 e3 lr3 ⟨s3, r3⟩ p3 => by
      have r1' := (r1.mono (e2.grow s1)).mono (e3.grow s2)
      have r2' := r2.mono (e3.grow s2)
      unfold setN at p3
      split at p3
      · split at p3
        · rename_i kvs k c1 c2
          split at p3
          · rename_i hz
            cases r2' with
            | ref ea =>
              obtain ⟨w, hw, c⟩ := s3.cell c1 ea
              cases c with
              | dN nr =>
                obtain ⟨q, rfl, kn⟩ := keyT_at r3 c2
                obtain ⟨k1, k2, ys, eys⟩ := keyT_ok c2
                refine ⟨_, q, _, k, rfl, rfl, hw, ⟨γ, ι3, kvs, nr⟩, kn, by rw [← nr.length, sizeLine_eq]; exact hz, fun r rr => ?_⟩
                obtain ⟨s4, e4⟩ := s3.put (o := .dN (putM kvs k v)) (w := .ext (DNP _ (storedH _ k q r))) ea (.dN (nr.put k2 (by rw [mvOf_key _ _ k1]; exact r3) r1' rr))
                have e4 := e4 (fun o w z => by rw [hw] at z; cases z)
                exact p3 ι3 _ _ e4 s4 (lr3.mono (e4.grow s3))
          · exact p3.elim
        · exact p3.elim
      · exact p3.elim⟩⟩⟩
theorem ms_setA {a b e : Expr} {ma mb mv : MEx} {tpos : Pos} (hu : X.A.units + 100 < cLine) (ha : ME X W a ma) (hb : ME X W b mb) (he : ME X W e mv) (hs : swapsWithSole [.Subscript a b tpos] e pos.line X.env = pure false := by rfl) (hw : swappedStores [.Subscript a b tpos] e X.env = pure none := by rfl)
    (h1 : (assignEach [.Subscript a b tpos] X.env).map (·.2) = [assign (.Subscript a b tpos) X.env] := by rfl)
    (hg : ∀ v, assign (.Subscript a b tpos) X.env v = (do
      let ov ← holding [v] (eval a X.env)
      let iv ← holding [v, ov] (eval b X.env)
      standAt tpos
      holding [v, ov, iv] (setItem ov iv v)
      release [v, ov, iv] []) := by intro _; rfl) : MSj X W (.Assign [.Subscript a b tpos] e pos) (mSet3 setA ma mb mv) := by
  have A1 : MSj X W (.Assign [.Subscript a b tpos] e pos) (mSet3 setO ma mb mv) := ms_setIx ha hb he hs hw h1 hg
  have A2 : MSj X W (.Assign [.Subscript a b tpos] e pos) (mSet3 setK ma mb mv) := ms_setK (by omega) ha hb he hs hw h1 hg
  have A3 := ms_setN hu ha hb he hs hw h1 hg
  refine ms_choose A1 (ms_choose (m := mSet3 (fun x y v h => match x with
    | .ref n => (match h[n]? with
      | some (.dN _) => setN x y v h
      | _ => setK x y v h)
    | _ => setK x y v h) ma mb mv) A3 A2 (mSet3_choose fun x y v h => ?_)) (mSet3_choose fun x y v h => ?_)
  · split
    · split <;> simp
    · simp
  · unfold setA
    split
    · split
      · exact .inl rfl
      · rename_i q; right; simp only [q]
      · rename_i q1 q2
        right
        split
        · rename_i q3; exact absurd q3 (q2 _)
        · rfl
    · rename_i hn
      left
      unfold setO
      split
      · rename_i n _; exact absurd rfl (hn n)
      · rfl
/-! ### d.pop(k) -/
def popK : MOp := fun x y h => match x with
  | .ref n => match h[n]? with
    | some (.dK kvs) => (match keyM y with
      | some k => (match lookM kvs k with
        | some v => .ok v (h.set n (.dK (dropM kvs k)))
        | none => .stuck)
      | none => .stuck)
    | some (.dN kvs) => (match keyT y with
      | some k => (match lookM kvs k with
        | some v => .ok v (h.set n (.dN (dropM kvs k)))
        | none => .stuck)
      | none => .stuck)
    | _ => .stuck
  | _ => .stuck
def isDKN (h : MH) (x : MV) : Bool := match x with
  | .ref n => match h[n]? with
    | some (.dK _) => true
    | some (.frz (.dK _)) => true
    | some (.dN _) => true
    | some (.frz (.dN _)) => true
    | _ => false
  | _ => false
def tDPopA (X : Cx) (td ty : TE) : TE := fun σ H Q => td σ H fun x H1 => ∃ a, x = .ref a ∧ (IsD H1 a ∨ ∃ xs, Rd H1 a (.ext (DNP a xs))) ∧ ty σ H1 fun y H2 => (∃ kvs k v, H2 a = some (.dK kvs) ∧ y = kV k ∧ valV kvs k = some v ∧ Q v (upd H2 a (.dK (dropK kvs k)))) ∨ rPopN X x [y] H2 Q
theorem pe_dpopA {o e : Expr} {td ty : TE} {apos cpos : Pos} (hu : X.A.units + 100 < cLine) (ho : PE X o td) (he : PE X e ty) (m : M1 X o "pop" apos e cpos) : PE X (.Call (.Attribute o "pop" apos) [e] [] cpos) (tDPopA X td ty) := by
  refine ⟨fun pins s σ H Q I h => ?_⟩
  refine wpAny_Call_method m.base m.few m.line PySem.F.plainAttrs_dict PySem.F.slot_dict_pop PySem.F.type_dict_pop (thn (ho.run pins s σ H _ I h) fun u s1 ⟨x, H1, I1, rx, a, ex, d, q1⟩ => ?_)
  subst ex
  obtain rfl : u = Value.ref a := rx
  obtain ⟨t1, t2⟩ : s1.TypeIs (.ref a) "dict" ∧ (∀ b, Value.ref a = .ref b → ∃ ob, s1.heap.get? b = some ob ∧ ob.dict = none) := by
    rcases d with d | ⟨xs, d⟩
    · exact ⟨(isD_at I1 d).1, (isD_at I1 d).2.1⟩
    · exact isDN_at I1 d
  refine ⟨t1, t2, ?_⟩
  rw [m.trees]
  refine Calls.callWith_builtin rfl (Calls.evalArgs_plain (Calls.spliced_cons (thn (he.run pins s1 σ H1 _ I1 q1) fun iv s2 ⟨y, H2, I2, ry, q2⟩ => Calls.spliced_nil ?_)))
  rcases q2 with ⟨kvs, k, v, ea, ey, l, q2⟩ | q2
  · subst ey
    exact d_pop I2 ea ry l (.inl rfl) fun w' s3 I3 rw' => ⟨v, _, I3, rw', q2⟩
  · exact mt_popN hu pins s2 σ H2 (.ref a) _ _ _ Q I2 rfl (.cons ry .nil) q2
theorem isDKN_ok {γ ι : List Addr} {H : Hp} {h : MH} (s : SimH X.K X.mg γ ι H h) {x : MV} {V : L2.V} (r : VR X.K X.mg γ ι H x V) (e : isDKN h x = true) : ∃ a, V = .ref a ∧ (IsD H a ∨ ∃ xs, Rd H a (.ext (DNP a xs))) := by
  unfold isDKN at e
  split at e
  · cases r with
    | ref ea =>
      split at e <;> rename_i q
      · obtain ⟨w, hw, c⟩ := s.cell q ea
        cases c with
        | dK fr => exact ⟨_, rfl, .inl (.inl ⟨_, .inl hw⟩)⟩
      · obtain ⟨w, hw, c⟩ := s.cell q ea
        cases c with
        | frz c => cases c with
          | dK fr => exact ⟨_, rfl, .inl (.inl ⟨_, .inr ⟨_, hw⟩⟩)⟩
      · obtain ⟨w, hw, c⟩ := s.cell q ea
        cases c with
        | dN fr => exact ⟨_, rfl, .inr ⟨_, .inl hw⟩⟩
      · obtain ⟨w, hw, c⟩ := s.cell q ea
        cases c with
        | frz c => cases c with
          | dN fr => exact ⟨_, rfl, .inr ⟨_, .inr ⟨_, hw⟩⟩⟩
      · cases e
  · cases e
theorem me_popK {o e : Expr} {ma mb : MEx} {apos : Pos} (hu : X.A.units + 100 < cLine) (ho : ME X W o ma) (he : ME X W e mb) (m : M1 X o "pop" apos e pos) : ME X W (.Call (.Attribute o "pop" apos) [e] [] pos) (mM1 isDKN popK ma mb) :=
  peW (pe_dpopA hu ho he m) fun σ H Q ⟨γ, ι, l, h, s, lr, p⟩ => ⟨γ, ι, l, h, s, lr, p.seq (rel := rV X) fun ι1 x h1 V H1 e1 ⟨s1, r1⟩ p1 => by
    split at p1
    · rename_i hd
      obtain ⟨a, rfl, d⟩ := isDKN_ok s1 r1 hd
      refine ⟨a, rfl, d, γ, ι1, l, h1, s1, lr.mono (e1.grow s), p1.seq (rel := rV X) fun ι2 y h2 V2 H2 e2 ⟨s2, r2⟩ p2 => ?_⟩
      have q1 := r1.mono (e2.grow s1)
      unfold popK at p2
      split at p2
      · cases q1 with
        | ref ea =>
          split at p2
          · rename_i kvs c1
            obtain ⟨w, hw, c⟩ := s2.cell c1 ea
            split at p2
            · rename_i k ek
              split at p2
              · rename_i v ev
                cases c with
                | dK fr =>
                  rcases fr.val k with ⟨z, _⟩ | ⟨x', v', z, z2, rv⟩
                  · rw [ev] at z; cases z
                  · rw [ev] at z; cases z
                    refine .inl ⟨_, k, v', hw, r2.key ek, z2, ?_⟩
                    obtain ⟨s4, e4⟩ := s2.put (o := .dK (dropM kvs k)) (w := .dK (dropK _ k)) ea (.dK (fr.drop k))
                    have e4 := e4 (fun o w z => by rw [hw] at z; cases z)
                    exact p2.okE e4 ⟨s4, rv.mono (e4.grow s2)⟩
              · exact p2.elim
            · exact p2.elim
          · rename_i kvs c1
            obtain ⟨w, hw, c⟩ := s2.cell c1 ea
            split at p2
            · rename_i k ek
              split at p2
              · rename_i v ev
                cases c with
                | dN nr =>
                  rcases nr.val k with ⟨z, _⟩ | ⟨y', p', u', v', z, z2, rl, rv⟩
                  · rw [ev] at z; cases z
                  · rw [ev] at z; cases z
                    obtain ⟨q, rfl, kn⟩ := keyT_at r2 ek
                    refine .inr ⟨_, q, _, k, u', v', rfl, rfl, hw, ⟨γ, ι2, kvs, nr⟩, kn, ⟨p', z2⟩, rl, ?_⟩
                    obtain ⟨s4, e4⟩ := s2.put (o := .dN (dropM kvs k)) (w := .ext (DNP _ (withoutH _ k))) ea (.dN (nr.drop k))
                    have e4 := e4 (fun o w z => by rw [hw] at z; cases z)
                    exact p2.okE e4 ⟨s4, rv.mono (e4.grow s2)⟩
              · exact p2.elim
            · exact p2.elim
          · exact p2.elim
      · exact p2.elim
    · exact p1.elim⟩
end
end ML

set_option maxRecDepth 100000
set_option maxHeartbeats 4000000
/-! ML39: the head's facts over a written list of places. -/
namespace ML
open PySem PySem.Spec PyProof.Rows L2
end ML

set_option maxRecDepth 100000
set_option maxHeartbeats 4000000
/-! ML40: walks of any dict; a dict of nested keys made. -/
namespace ML
open PySem PySem.Spec PyProof.Rows L2
section
variable {X : Cx} {W : WX} {pos : Pos}
theorem dn_empty (h : Heap) (hb : sysModules < h.objs.size) : DNP h.objs.size [] (h.push { cls := .type "dict", data := .dict #[] }) :=
  ⟨Nat.zero_le _, beq_eq_false_iff_ne.mpr (Ne.symm (Nat.ne_of_lt hb)), List.nodup_nil, _, #[], 0, Heap.get?_push_size _ rfl, ⟨rfl, rfl, rfl⟩, rfl, fun _ => rfl⟩
def tDNewN : TE := fun _ H Q => ∀ p, H p = none → Q (.ref p) (upd H p (.ext (DNP p [])))
theorem pe_dnewN : PE X (.Dict [] [] pos) tDNewN := ⟨fun pins s σ H Q I h =>
  wpAny_Dict_empty ⟨.ref s.heap.objs.size, _, I.laid (a := s.heap.objs.size) (o := .ext (DNP s.heap.objs.size [])) (t' := s.toks) (fun _ _ q => Heap.get?_push_of_some _ q) (Nat.le_refl _) (dn_ok (dn_empty s.heap I.big)), rfl, h _ (I.hok.fresh (Nat.le_refl _))⟩⟩
theorem me_dnewN : ME X W (.Dict [] [] pos) (mNewD (.dN [])) :=
  peW pe_dnewN fun σ H Q ⟨γ, ι, l, h, s, lr, p⟩ q hq => by
    obtain ⟨s1, e1, hl⟩ := s.alloc (o := .dN []) (w := .ext (DNP q [])) hq (.dN .nil)
    exact p.okE e1 ⟨s1, .ref hl⟩
/-! ### the keys of a locked dict of nested keys -/
def Itkn (d : Addr) (o : Obj) (xs : List (NestedKey × Addr × Value)) : It :=
  ⟨fun i H => H d = some (.frz o (.ext (DNP d xs))) ∧ i < xs.length, fun i H x H' => H' = H ∧ ∃ (k : NestedKey) (q : Addr) (u : Value), xs[i]? = some (k, q, u) ∧ x = .ref q, fun i H => H d = some (.frz o (.ext (DNP d xs))) ∧ xs.length ≤ i⟩
theorem frzN {pins : List (Addr × Obj)} {σ : L2.St} {H : Hp} {s : Shared} {d : Addr} {o : Obj} {xs : List (NestedKey × Addr × Value)} (I : L2.Inv X pins σ H s) (h : H d = some (.frz o (.ext (DNP d xs)))) :
    (d == sysModules) = false ∧ s.heap.get? d = some o ∧ o.ExactDict ∧ ∃ (es : Array DictEntry) (ep : Nat), o.data = .dict es ep ∧ es.size = xs.length ∧
      ∀ (i : Nat) (k : NestedKey) (q : Addr) (u : Value), xs[i]? = some (k, q, u) → ∃ en : DictEntry, es[i]? = some en ∧ en.key = .ref q := by
  obtain ⟨hd, ⟨h1, h2, h3, o', es, ep, h4, h5, h6, h7⟩, _⟩ := I.hok d _ h
  rw [hd] at h4
  cases h4
  have he := h7 X.w
  refine ⟨h2, hd, h5, es, ep, h6, ?_, fun i k q u e => ?_⟩
  · rw [← Array.length_toList, he, List.length_map]
  · refine ⟨⟨k.hash X.w, .ref q, u⟩, ?_, rfl⟩
    rw [← Array.getElem?_toList, he, List.getElem?_map, e]; rfl
theorem turn_keysN {P : Program} {w : World} {K : PySem.W.Frag} {tg : Expr} {d : Addr} {o : Obj} {es : Array DictEntry} {ep : Nat} {xs : List (NestedKey × Addr × Value)} (it : Addr) (hod : o.data = .dict es ep) : Turn P w K tg (Itkn d o xs) [it] it (fun i h => h.IsKeyIter it d i xs.length ep) where
  mem := by simp
  obj := fun i h st b hb => by
    have e : b = it := by simpa using hb
    subst e
    obtain ⟨oi, e, c, dd⟩ := st
    exact ⟨oi, e, fun v z => by rw [dd] at z; cases z⟩
  keep := fun i h h' st k => st.at fun oi e => k it (by simp) oi e
  item := by
    intro X hP hw hK hc i pins s σ H E I hf st hg
    subst hP hw hK
    obtain ⟨hd, hi⟩ := hg
    obtain ⟨f0, f1, f2, f3, f4, f5⟩ := hf it (by simp)
    obtain ⟨hs, hgd, hx, es', ep', hdt, hsz, ent⟩ := frzN I hd
    obtain ⟨rfl, rfl⟩ := dict_ep hod hdt
    obtain ⟨⟨k, q, u⟩, hkv⟩ : ∃ p, xs[i]? = some p := ⟨xs[i], List.getElem?_eq_getElem hi⟩
    obtain ⟨en, hen, hkey⟩ := ent i k q u hkv
    refine next_key_item st hgd hdt hsz hen fun h' st' sb => ?_
    have I1 : L2.Inv X pins σ H { s with heap := h' } := I.turned (t' := s.toks) (fun b ob hb e => (sb.2 b hb).trans e) f0 f1 f3 f4 f5
    obtain ⟨oi, e, c, dd⟩ := id st'
    exact ⟨en.key, rfl, go_of (s := { s with heap := h' }) e c dd (by decide) ⟨.ref q, H, I1, hkey, ⟨rfl, k, q, u, hkv, rfl⟩, st', fun b hb => (hf b hb).1⟩⟩
  done := by
    intro X hP hw hK hc i pins s σ H E I hf st hg
    subst hP hw hK
    obtain ⟨hd, hi⟩ := hg
    obtain ⟨f0, f1, f2, f3, f4, f5⟩ := hf it (by simp)
    obtain ⟨hs, hgd, hx, es', ep', hdt, hsz, ent⟩ := frzN I hd
    obtain ⟨rfl, rfl⟩ := dict_ep hod hdt
    exact next_key_end (I.ok.hd hc) st hgd hdt hsz hi fun h' eb => ⟨rfl, I.turned (t' := s.toks) (fun b ob hb e => eb b ob hb e) f0 f1 f3 f4 f5⟩
  self := fun A i s Q E st h => by
    refine wpAny_pyIter_slot st.typeIs PySem.F.slot_dict_keyiterator_iter (wpAny_call_entry PySem.F.slot_dict_keyiterator_iter st.typeIs PySem.F.entry_dict_keyiterator_iter ?_ (PySem.F.args_dict_keyiterator_iter_1 _))
    show wpAny _ _ (ret (.ref it)) _ _ s
    exact wpAny_pure ⟨_, rfl, "dict_keyiterator", _, st.typeIs, PySem.F.slot_dict_keyiterator_next.lookup, h⟩
def iKeysN (td : TE) : TI := fun σ H R => td σ H fun x H1 => ∃ d o xs, x = .ref d ∧ H1 d = some (.frz o (.ext (DNP d xs))) ∧ R (Itkn d o xs) H1
theorem pi_keysN {tg e : Expr} {td : TE} (he : PE X e td) : PI X tg e (iKeysN td) := by
  refine ⟨fun pins s σ H R I h => ?_⟩
  refine thn (he.run pins s σ H _ I h) fun u s1 ⟨x, H1, I1, rx, d, o, xs, ex, hd, q⟩ => ?_
  subst ex
  obtain rfl : u = Value.ref d := rx
  obtain ⟨hs, hgd, hx, es, ep, hdt, hsz, ent⟩ := frzN I1 hd
  refine iter_keys hs hgd hx hdt (pi_one (tk := s1.toks) I1 _ (turn_keysN _ hdt) ⟨_, Heap.get?_push_size _ rfl, rfl, ?_⟩ q)
  rw [hsz] <;> rfl
def itN (x : MV) (h : MH) : MR (List MV) := match x with
  | .ref n => match h[n]? with
    | some (.frz (.dN kvs)) => .ok (kvs.map fun p => mvOf p.1) h
    | _ => .stuck
  | _ => .stuck
theorem NR.getk {K : PySem.W.Frag} {mg : Str → Option Value} {γ ι : List Addr} {H : Hp} {kvs : List (NestedKey × MV)} {xs : List (NestedKey × Addr × Value)} (r : NR K mg γ ι H kvs xs) : ∀ {i : Nat} {p : NestedKey × MV}, kvs[i]? = some p → ∃ q u, xs[i]? = some (p.1, q, u) ∧ VR K mg γ ι H (mvOf p.1) (.ref q) := by
  induction r with
  | nil => intro i p e; simp at e
  | cons a b c d e ih =>
    intro i p hp
    cases i with
    | zero => simp at hp; subst hp; exact ⟨_, _, rfl, b⟩
    | succ i => simpa using ih (i := i) (by simpa using hp)
theorem mi_dictN {tg e : Expr} {m : MEx} (he : ME X W e m) : MI X W tg e (fun l h => (m l h).bind itN) := by
  refine ⟨fun pins s σ H R I h0 => (pi_keysN he).run pins s σ H R I ?_⟩
  obtain ⟨γ, ι, l, h, sm, lr, p⟩ := h0
  refine ⟨γ, ι, l, h, sm, lr, p.seq (rel := rV X) fun ι1 x h1 V H1 e1 r1' p1 => ?_⟩
  obtain ⟨s1, r1⟩ := r1'
  unfold itN at p1
  split at p1
  · cases r1 with
    | ref ea =>
      split at p1
      · rename_i kvs q
        obtain ⟨w, hw, c⟩ := s1.cell q ea
        cases c with
        | frz c => cases c with
          | @dN _ xs nr =>
            refine ⟨_, _, xs, rfl, hw, p1.ok ⟨s1, fun γ' ι' H' h' e' hid s' => ⟨fun i hi => ⟨e'.frz _ _ _ hw, ?_⟩, fun i x hx => ?_⟩⟩⟩
            · rw [← nr.length]; simpa using hi
            · rw [List.getElem?_map] at hx
              obtain ⟨pr, hpr, rfl⟩ := Option.map_eq_some_iff.mp hx
              obtain ⟨q', u', hq, rq⟩ := nr.getk hpr
              refine ⟨⟨e'.frz _ _ _ hw, (List.getElem?_eq_some_iff.mp hq).1⟩, fun V2 H2 y => ?_⟩
              obtain ⟨rfl, k, q2, u2, hk, rfl⟩ := y
              rw [hq] at hk
              cases hk
              exact ⟨s', .refl _ _, rq.mono (e'.growG s1 hid)⟩
      · exact p1.elim
  · exact p1.elim
/-! ### what is walked, whatever it is (a dict: locked) -/
def isFz (h : MH) (x : MV) : Bool := match x with
  | .ref n => match h[n]? with
    | some (.frz (.dN _)) => true
    | _ => false
  | _ => false
def isFd (h : MH) (x : MV) : Bool := match x with
  | .ref n => match h[n]? with
    | some (.frz (.dK _)) => true
    | some (.frz (.dT _)) => true
    | _ => false
  | _ => false
def itA (x : MV) (h : MH) : MR (List MV) := if isFz h x then itN x h else if isFd h x then itD x h else itO x h
def mItA (m : MEx) : MLx := fun l h => (m l h).bind itA
theorem bind_choose {m : MEx} {f f1 f2 : MV → MH → MR (List MV)} (hf : ∀ x h, f x h = f1 x h ∨ f x h = f2 x h) (l : Loc) (h : MH) : (m l h).bind f = (m l h).bind f1 ∨ (m l h).bind f = (m l h).bind f2 := by
  cases m l h with
  | ok x h1 => exact hf x h1
  | exn c fs h => exact .inl rfl
  | stuck => exact .inl rfl
theorem mi_any {tg e : Expr} {m : MEx} (he : ME X W e m) : MI X W tg e (mItA m) :=
  mi_choose (mi_dictN he) (mi_choose (m := fun l h => (m l h).bind fun x h => if isFd h x then itD x h else itO x h) (mi_dict he) (mi_val he) (bind_choose fun x h => by split <;> simp)) (bind_choose fun x h => by unfold itA; split <;> simp)
/-! ### lenient locks -/
def mLockSA (f : Loc → MH → Option Nat) (m : MSt) : MSt := fun l h => match f l h with
  | some n => (match h[n]? with
    | some o => if lockable o then unlockS n o (m l (h.set n (.frz o))) else m l h
    | none => m l h)
  | none => m l h
def mLockEA (f : Loc → MH → Option Nat) (m : MEx) : MEx := fun l h => match f l h with
  | some n => (match h[n]? with
    | some o => if lockable o then (m l (h.set n (.frz o))).bind fun v h1 => .ok v (h1.set n o) else m l h
    | none => m l h)
  | none => m l h
theorem ms_lockA {f : Loc → MH → Option Nat} {st : Stmt} {m : MSt} (hm : MSj X W st m) : MSj X W st (mLockSA f m) :=
  ms_choose (ms_lock (f := f) hm) hm fun l h => by
    unfold mLockSA mLockS
    cases f l h with
    | none => exact .inr rfl
    | some n =>
      dsimp only
      cases h[n]? with
      | none => exact .inr rfl
      | some o =>
        dsimp only
        cases lockable o
        · right; rw [if_neg (by simp)]
        · left; rw [if_pos rfl, if_pos rfl]
theorem me_lockA {f : Loc → MH → Option Nat} {e0 : Expr} {m : MEx} (hm : ME X W e0 m) : ME X W e0 (mLockEA f m) :=
  me_choose (me_lock (f := f) hm) hm fun l h => by
    unfold mLockEA mLockE
    cases f l h with
    | none => exact .inr rfl
    | some n =>
      dsimp only
      cases h[n]? with
      | none => exact .inr rfl
      | some o =>
        dsimp only
        cases lockable o
        · right; rw [if_neg (by simp)]
        · left; rw [if_pos rfl, if_pos rfl]
end
end ML

set_option maxRecDepth 100000
set_option maxHeartbeats 4000000
/-! ML41: sorted, of any length. -/
namespace ML
open PySem PySem.Spec PyProof.Rows L2
mutual
/-- scalars and tuples of such -/
def noL : MV → Bool
  | .non => true
  | .bl _ => true
  | .int _ => true
  | .str _ => true
  | .tup xs => noLs xs
  | _ => false
def noLs : List MV → Bool
  | [] => true
  | x :: xs => noL x && noLs xs
end
mutual
def encM : MV → PyData
  | .bl b => .bool b
  | .int i => .int i
  | .str x => .str x
  | .tup xs => .tuple (encMs xs)
  | _ => .none
def encMs : List MV → List PyData
  | [] => []
  | x :: xs => encM x :: encMs xs
end
/-- xs, rising -/
noncomputable def sortM (xs : List MV) : List MV := xs.mergeSort (PySem.W.dataLe false encM)
structure SortOk (xs : List MV) : Prop where
  dat : ∀ x ∈ xs, noL x = true
  len : xs.length ≤ 16777216
  alike : PySem.W.AllAlike (xs.map encM)
  kind : PySem.W.Sortable (xs.map encM)
  deep : ∀ x ∈ xs, (encM x).depth ≤ 50
section
variable {X : Cx} {pins : List (Addr × Obj)} {σ : L2.St} {H : Hp} {s : Shared} {γ ι : List Addr}
mutual
theorem reads_of (I : L2.Inv X pins σ H s) : ∀ (x : MV) {V : L2.V} {v : Value}, VR X.K X.mg γ ι H x V → RelV V v → noL x = true → Reads s.heap v (encM x) []
  | .non, _, _, r, q, _ => by
    cases r
    have : _ = Value.none := q
    subst this; unfold encM; exact .none
  | .bl b, _, _, r, q, _ => by
    cases r
    have : _ = Value.bool b := q
    subst this; unfold encM; exact .bool b
  | .int i, _, _, r, q, _ => by
    cases r
    obtain ⟨t, rfl⟩ := q
    unfold encM; exact .int i t
  | .str x, _, _, r, q, _ => by
    cases r
    obtain ⟨t, rfl⟩ := q
    unfold encM; exact .str x t
  | .tup xs, _, _, r, q, hn => by
    unfold noL at hn
    obtain ⟨a, vs, rfl, sa, ra⟩ := r.tupS
    have : _ = Value.ref a := q
    subst this
    obtain ⟨its, rv, ⟨o, h1, h2, n, h3⟩, _⟩ := I.tuple sa
    unfold encM
    exact .tuple h1 h2 h3 (reads_all I xs ra rv hn)
  | .fl _, _, _, _, _, hn => by unfold noL at hn; cases hn
  | .ref _, _, _, _, _, hn => by unfold noL at hn; cases hn
  | .glo _, _, _, _, _, hn => by unfold noL at hn; cases hn
theorem reads_all (I : L2.Inv X pins σ H s) : ∀ (xs : List MV) {vs : List L2.V} {us : List Value}, VRs X.K X.mg γ ι H xs vs → Vals vs us → noLs xs = true → ReadsAll s.heap us (encMs xs) []
  | [], _, _, r, q, _ => by cases r; cases q; unfold encMs; exact .nil
  | x :: xs, _, _, r, q, hn => by
    unfold noLs at hn
    obtain ⟨h1, h2⟩ := Bool.and_eq_true_iff.mp hn
    cases r with
    | cons a b =>
      cases q with
      | cons c d =>
        unfold encMs
        exact ReadsAll.cons (as := []) (bs := []) (reads_of I x a c h1) (reads_all I xs b d h2)
end
/-- what a sorted item stands for -/
def SR (X : Cx) (γ ι : List Addr) (H : Hp) (v : Value) (x : MV) : Prop := ∃ V, VR X.K X.mg γ ι H x V ∧ RelV V v
theorem each_of : ∀ {xs : List MV} {vs : List L2.V} {us : List Value}, VRs X.K X.mg γ ι H xs vs → Vals vs us → PySem.W.EachIs (SR X γ ι H) us xs
  | _, _, _, .nil, q => by cases q; exact .nil
  | _, _, _, .cons a b, q => by
    cases q with
    | cons c d => exact .cons ⟨_, a, c⟩ (each_of b d)
theorem of_each : ∀ {xs : List MV} {us : List Value}, PySem.W.EachIs (SR X γ ι H) us xs → ∃ vs, VRs X.K X.mg γ ι H xs vs ∧ Vals vs us
  | _, _, .nil => ⟨[], .nil, .nil⟩
  | _, _, .cons ⟨V, a, c⟩ t => by
    obtain ⟨vs, h1, h2⟩ := of_each t
    exact ⟨V :: vs, .cons a h1, .cons c h2⟩
theorem each_reads (I : L2.Inv X pins σ H s) : ∀ {xs : List MV} {vs : List L2.V} {us : List Value}, VRs X.K X.mg γ ι H xs vs → Vals vs us → (∀ x ∈ xs, noL x = true) → PySem.W.EachIs (fun v b => Reads s.heap v (encM b) []) us xs
  | _, _, _, .nil, q, _ => by cases q; exact .nil
  | _, _, _, .cons a b, q, hn => by
    cases q with
    | cons c d => exact .cons (reads_of I _ a c (hn _ List.mem_cons_self)) (each_reads I b d fun x hx => hn x (List.mem_cons_of_mem _ hx))
theorem each_mono {α β : Type} {R S : α → β → Prop} (h : ∀ a b, R a b → S a b) {as : List α} {bs : List β} (e : PySem.W.EachIs R as bs) : PySem.W.EachIs S as bs := by
  induction e with
  | nil => exact .nil
  | cons a _ ih => exact .cons (h _ _ a) ih
/-- sorted(v0), once what v0 holds is collected -/
theorem sorted_core {E : Value → Shared → Prop} {Q : VK} {xs : List MV} {vs : List L2.V} {us : List Value} {v0 : Value} (hu : X.A.units + 100 < cLine) (I : L2.Inv X pins σ H s) (r : VRs X.K X.mg γ ι H xs vs) (rv : Vals vs us) (ok : SortOk xs)
    (hcol : ∀ Q' : List Value → Shared → Prop, (∀ h' tk, (∀ b o, s.heap.get? b = some o → h'.get? b = some o) → Q' us { s with heap := h', toks := tk }) → wpAny (model X.prog X.w) X.A.in1 (collect v0) Q' E s)
    (q : ∀ p ws, H p = none → VRs X.K X.mg γ ι H (sortM xs) ws → Q (.ref p) (upd H p (.lst ws))) : wpAny (model X.prog X.w) X.A (call (.builtin "sorted") [v0]) (EP X pins σ Q) E s := by
  have hlen : us.length = xs.length := by rw [← rv.length, r.length]
  refine Calls.call_function_entry PyProof.Rows.kind_sorted PyProof.Rows.plain_sorted PyProof.Rows.entry_sorted (PyProof.Rows.args_sorted1 _) ?_
  unfold Builtin.«sorted»
  refine wpAny_bind (m := checkCount "sorted" 1 1 _) (wpAny_pure ?_)
  refine wpAny_bind (hcol _ fun h' tk hk => ?_)
  have I1 : L2.Inv X pins σ H { s with heap := h', toks := tk } := I.kept hk
  refine wpAny_bind (wpAny_newList ?_ (by rw [hlen, sizeLine_eq]; exact ok.len))
  have hoL : (h'.push (seqObj "list" us.toArray 0)).get? h'.objs.size = some (seqObj "list" us.toArray 0) := Heap.get?_push_size _ rfl
  show wpAny _ _ _ _ _ { s with heap := h'.push (seqObj "list" us.toArray 0), toks := tk }
  have er : PySem.W.EachIs (fun v b => ∃ as, Reads (h'.push (seqObj "list" us.toArray 0)) v (encM b) as ∧ h'.objs.size ∉ as) us xs :=
    each_mono (fun v b rd => ⟨[], PyProof.Rows.Reads.keeps (fun b o e => Heap.get?_push_of_some _ e) rd, by simp⟩) (each_reads (s := { s with heap := h', toks := tk }) I1 r rv ok.dat)
  refine wpAny_bind (wpAny_holding (PySem.W.list_sort_data (A := X.A.in1) (s := { s with heap := h'.push (seqObj "list" us.toArray 0), toks := tk }) (R := SR X γ ι H) (enc := encM) hoL (each_of r rv) er ok.alike ok.kind (by rw [sizeLine_eq]; exact ok.len) (fun b hb => by
    have := ok.deep b hb
    show X.A.units + 1 + 1 + _ < _
    omega) fun out h1 h2 => ?_))
  obtain ⟨ws, w1, w2⟩ := of_each h2
  obtain ⟨e', he'⟩ := PyProof.Rows.sortedHeap_at (vs := us) (out := out.toArray) hoL
  have hl : ws.length ≤ sizeLine := by
    rw [w2.length, h1, sizeLine_eq]; exact ok.len
  refine wpAny_pure ⟨_, rfl, .ref h'.objs.size, upd H h'.objs.size (.lst ws), I1.laid (t' := tk) (fun b u e => ?_) (Nat.le_refl _)
    (show ObjOk X.prog X.w _ _ _ (.lst ws) from ⟨hl, out, e', w2, he'⟩), rfl, q _ ws (I1.hok.fresh (Nat.le_refl _)) w1⟩
  have hb : b < h'.objs.size := Heap.lt_size e
  rw [PyProof.Rows.sortedHeap_old (Nat.ne_of_lt hb) (by rw [size_push']; exact Nat.lt_succ_of_lt hb)]
  exact Heap.get?_push_of_some _ e
end
end ML

set_option maxRecDepth 100000
set_option maxHeartbeats 4000000
namespace ML
open PySem PySem.Spec PyProof.Rows L2
noncomputable def b_law_good_k16 : MSt :=
  (mSeq (mIfS (mOr (mNot (mB (mIsi "tuple" (mv 0)))) (mOr (mB (mOp neO (mCB lenC (maCons (mv 0) maNil)) (mc (.int 2)))) (mNot (mB (mIsi "tuple" (mOp ixO (mv 0) (mc (.int 1)))))))) (mRet (mc (.bl false))) mNil)
  (mSeq (mIfS (mOr (mNot (mB (mIsi "int" (mOp ixO (mv 0) (mc (.int 0)))))) (mOr (mB (mIsi "bool" (mOp ixO (mv 0) (mc (.int 0))))) (mOr (mB (mOp ltO (mOp ixO (mv 0) (mc (.int 0))) (mc (.int 1)))) (mB (mOp gtO (mOp ixO (mv 0) (mc (.int 0))) (mc (.int 12))))))) (mRet (mc (.bl false))) mNil)
  (mSeq (mIfS (mB (mOp gtO (mCB lenC (maCons (mOp ixO (mv 0) (mc (.int 1))) maNil)) (mc (.int 20)))) (mRet (mc (.bl false))) mNil)
  (mSeq (mFor (.nm 1) (mIt (mOp ixO (mv 0) (mc (.int 1)))) (mSeq (mIfS (mOr (mNot (mB (mIsi "tuple" (mv 1)))) (mB (mOp neO (mCB lenC (maCons (mv 1) maNil)) (mc (.int 2))))) (mRet (mc (.bl false))) mNil)
  (mSeq (mFor (.nm 2) (mIt (mv 1)) (mIfS (mOr (mNot (mB (mIsi "int" (mv 2)))) (mOr (mB (mIsi "bool" (mv 2))) (mOr (mB (mOp ltO (mv 2) (mc (.int 0)))) (mB (mOp geO (mv 2) (mOp ixO (mv 0) (mc (.int 0)))))))) (mRet (mc (.bl false))) mNil))
  (mIfS (mB (mOp geO (mOp ixO (mv 1) (mc (.int 0))) (mOp ixO (mv 1) (mc (.int 1))))) (mRet (mc (.bl false))) mNil))))
  (mRet (mc (.bl true)))))))
noncomputable def m_law_good_k16 : List MV → MH → MR MV := (mRun 3 1 b_law_good_k16)
noncomputable def b_law_alike (self : List MV → MH → MR MV) : MSt :=
  (mSeq (mIfS (mB (mOp isO (mv 1) (mc .non))) (mRet (mIsN (mv 0))) mNil)
  (mSeq (mIfS (mB (mIsi "bool" (mv 1))) (mRet (mAndV (mB (mIsi "bool" (mv 0))) (mOp eqO (mv 0) (mv 1)))) mNil)
  (mSeq (mIfS (mB (mIsi "int" (mv 1))) (mRet (mAndV (mB (mIsi "int" (mv 0))) (mAndV (mB (mNotV (mB (mIsi "bool" (mv 0))))) (mOp eqO (mv 0) (mv 1))))) mNil)
  (mSeq (mIfS (mB (mIsi "str" (mv 1))) (mRet (mAndV (mB (mIsi "str" (mv 0))) (mOp eqO (mv 0) (mv 1)))) mNil)
  (mSeq (mIfS (mOr (mB (mOp neO (mIsi "tuple" (mv 1)) (mIsi "tuple" (mv 0)))) (mB (mOp neO (mIsi "list" (mv 1)) (mIsi "list" (mv 0))))) (mRet (mc (.bl false))) mNil)
  (mRet (mAndV (mB (mOp eqO (mCB lenC (maCons (mv 0) maNil)) (mCB lenC (maCons (mv 1) maNil)))) (mCB allC (maCons (mFl (mLC (.tp [2, 3]) [2, 3] (mCL zipL (maCons (mv 0) (maCons (mv 1) maNil))) mYes (mCall 2 self (maCons (mv 2) (maCons (mv 3) maNil))))) maNil)))))))))
noncomputable def n_law_alike : Nat → List MV → MH → MR MV
  | 0 => fun _ _ => .stuck
  | n + 1 => (mRun 4 2 (b_law_alike (n_law_alike n)))
noncomputable def m_law_alike : List MV → MH → MR MV := n_law_alike 8
noncomputable def b_World_hedge_known : MSt :=
  (mIfS (mOr (mB (mOp ltO (mv 1) (mc (.int 0)))) (mB (mOp geO (mv 1) (mCB lenC (maCons (mFldI "cuts_kept" ["World"] (mv 0)) maNil))))) (mRaise "NoHedge") mNil)
noncomputable def m_World_hedge_known : List MV → MH → MR MV := (mRun 2 2 b_World_hedge_known)
noncomputable def b_World_is_cut : MSt :=
  (mSeq (mExpr (mMeth "World" "hedge_known" 2 [] m_World_hedge_known (mv 0) (maCons (mv 1) maNil)))
  (mRet (mOp ixO (mFldI "cuts_kept" ["World"] (mv 0)) (mv 1))))
noncomputable def m_World_is_cut : List MV → MH → MR MV := (mRun 2 2 b_World_is_cut)
noncomputable def b_World_rule_of : MSt :=
  (mSeq (mExpr (mMeth "World" "hedge_known" 2 [] m_World_hedge_known (mv 0) (maCons (mv 1) maNil)))
  (mRet (mOp ixO (mFldI "rules_kept" ["World"] (mv 0)) (mv 1))))
noncomputable def m_World_rule_of : List MV → MH → MR MV := (mRun 2 2 b_World_rule_of)
noncomputable def b_World_book_of : MSt :=
  (mSeq (mIfS (mOr (mB (mOp ltO (mv 1) (mc (.int 0)))) (mB (mOp geO (mv 1) (mCB lenC (maCons (mFldI "books" ["World"] (mv 0)) maNil))))) (mRaise "NoGarden") mNil)
  (mRet (mOp ixO (mFldI "books" ["World"] (mv 0)) (mv 1))))
noncomputable def m_World_book_of : List MV → MH → MR MV := (mRun 2 2 b_World_book_of)
noncomputable def b_World_handles : MSt :=
  (mRet (mFl (mCL sortDL (maCons (mFldI "by_number" ["Book"] (mMeth "World" "book_of" 2 [] m_World_book_of (mv 0) (maCons (mv 1) maNil))) maNil))))
noncomputable def m_World_handles : List MV → MH → MR MV := (mRun 2 2 b_World_handles)
noncomputable def b_World_many_handles : MSt :=
  (mRet (mCB lenDC (maCons (mFldI "by_number" ["Book"] (mMeth "World" "book_of" 2 [] m_World_book_of (mv 0) (maCons (mv 1) maNil))) maNil)))
noncomputable def m_World_many_handles : List MV → MH → MR MV := (mRun 2 2 b_World_many_handles)
noncomputable def b_World___len__ : MSt :=
  (mRet (mCB lenDC (maCons (mFldI "things_kept" ["World"] (mv 0)) maNil)))
noncomputable def m_World___len__ : List MV → MH → MR MV := (mRun 1 1 b_World___len__)
noncomputable def b_World_next_thing : MSt :=
  (mRet (mFldI "next_kept" ["World"] (mv 0)))
noncomputable def m_World_next_thing : List MV → MH → MR MV := (mRun 1 1 b_World_next_thing)
noncomputable def b_World_things : MSt :=
  (mRet (mFl (mCL sortDL (maCons (mFldI "things_kept" ["World"] (mv 0)) maNil))))
noncomputable def m_World_things : List MV → MH → MR MV := (mRun 1 1 b_World_things)
noncomputable def b_World_net_of : MSt :=
  (mRet (mFldI "net_kept" ["World"] (mv 0)))
noncomputable def m_World_net_of : List MV → MH → MR MV := (mRun 1 1 b_World_net_of)
noncomputable def b_law_fresh : MSt :=
  (mSeq (mIfS (mNot (mB (mCall 2 m_law_alike (maCons (mFl (mLst (maCons (mMeth "World" "net_of" 1 [] m_World_net_of (mv 0) maNil) (maCons (mMeth "World" "things" 1 [] m_World_things (mv 0) maNil) (maCons (mMeth "World" "next_thing" 1 [] m_World_next_thing (mv 0) maNil) (maCons (mLenI "World" m_World___len__ (mv 0)) maNil)))))) (maCons (mFl (mLst (maCons (mv 1) (maCons (mFl (mLst maNil)) (maCons (mc (.int 0)) (maCons (mc (.int 0)) maNil)))))) maNil))))) (mRet (mc (.bl false))) mNil)
  (mSeq (mFor (.nm 2) (mCL rg1 (maCons (mOp ixO (mv 1) (mc (.int 0))) maNil)) (mIfS (mNot (mB (mCall 2 m_law_alike (maCons (mTup (maCons (mMeth "World" "many_handles" 2 [] m_World_many_handles (mv 0) (maCons (mv 2) maNil)) (maCons (mMeth "World" "handles" 2 [] m_World_handles (mv 0) (maCons (mv 2) maNil)) maNil))) (maCons (mTup (maCons (mc (.int 0)) (maCons (mFl (mLst maNil)) maNil))) maNil))))) (mRet (mc (.bl false))) mNil))
  (mSeq (mFor (.nm 3) (mCL rg1 (maCons (mCB lenC (maCons (mOp ixO (mv 1) (mc (.int 1))) maNil)) maNil)) (mIfS (mNot (mB (mCall 2 m_law_alike (maCons (mTup (maCons (mMeth "World" "rule_of" 2 [] m_World_rule_of (mv 0) (maCons (mv 3) maNil)) (maCons (mMeth "World" "is_cut" 2 [] m_World_is_cut (mv 0) (maCons (mv 3) maNil)) maNil))) (maCons (mTup (maCons (mTup (maCons (mTup (maCons (mc (.str "look")) (maCons (mc (.str "put")) (maCons (mc (.str "call")) maNil)))) (maCons (mTup maNil) maNil))) (maCons (mc (.bl false)) maNil))) maNil))))) (mRet (mc (.bl false))) mNil))
  (mRet (mc (.bl true))))))
noncomputable def m_law_fresh : List MV → MH → MR MV := (mRun 4 2 b_law_fresh)
noncomputable def b_Book___init__ : MSt :=
  (mSeq (mSetF "by_number" ["Book"] (mv 0) (mNewD (.dK [])))
  (mSeq (mSetF "by_seen" ["Book"] (mv 0) (mNewD (.dK [])))
  (mSetF "next_number" ["Book"] (mv 0) (mc (.int 0)))))
noncomputable def m_Book___init__ : List MV → MH → MR MV := (mRun 1 1 b_Book___init__)
noncomputable def b_is_whole : MSt :=
  (mRet (mAndV (mB (mIsi "int" (mv 0))) (mNotV (mB (mIsi "bool" (mv 0))))))
noncomputable def m_is_whole : List MV → MH → MR MV := (mRun 1 1 b_is_whole)
noncomputable def b_is_hedge : MSt :=
  (mSeq (mIfS (mOr (mNot (mB (mIsi "tuple" (mv 1)))) (mOr (mB (mOp neO (mCB lenC (maCons (mv 1) maNil)) (mc (.int 2)))) (mOr (mNot (mB (mCall 1 m_is_whole (maCons (mOp ixO (mv 1) (mc (.int 0))) maNil)))) (mNot (mB (mCall 1 m_is_whole (maCons (mOp ixO (mv 1) (mc (.int 1))) maNil))))))) (mRet (mc (.bl false))) mNil)
  (mRet (mAndV (mB (mOp leO (mc (.int 0)) (mOp ixO (mv 1) (mc (.int 0))))) (mAndV (mB (mOp ltO (mOp ixO (mv 1) (mc (.int 0))) (mOp ixO (mv 1) (mc (.int 1))))) (mOp ltO (mOp ixO (mv 1) (mc (.int 1))) (mv 0))))))
noncomputable def m_is_hedge : List MV → MH → MR MV := (mRun 2 2 b_is_hedge)
noncomputable def b_is_net : MSt :=
  (mSeq (mIfS (mOr (mNot (mB (mIsi "tuple" (mv 0)))) (mOr (mB (mOp neO (mCB lenC (maCons (mv 0) maNil)) (mc (.int 2)))) (mOr (mNot (mB (mCall 1 m_is_whole (maCons (mOp ixO (mv 0) (mc (.int 0))) maNil)))) (mNot (mB (mIsi "tuple" (mOp ixO (mv 0) (mc (.int 1))))))))) (mRet (mc (.bl false))) mNil)
  (mSeq (mAsg (.tp [1, 2]) (mv 0))
  (mSeq (mIfS (mOr (mB (mOp ltO (mv 1) (mc (.int 1)))) (mOr (mB (mOp gtO (mv 1) (mc (.int 12)))) (mB (mOp gtO (mCB lenC (maCons (mv 2) maNil)) (mc (.int 20)))))) (mRet (mc (.bl false))) mNil)
  (mRet (mCB allC (maCons (mFl (mLC (.nm 3) [3] (mIt (mv 2)) mYes (mCall 2 m_is_hedge (maCons (mv 1) (maCons (mv 3) maNil))))) maNil))))))
noncomputable def m_is_net : List MV → MH → MR MV := (mRun 4 1 b_is_net)
noncomputable def b_World___init__ : MSt :=
  (mSeq (mIfS (mNot (mB (mCall 1 m_is_net (maCons (mv 1) maNil)))) (mRaise "NoNet") mNil)
  (mSeq (mSetF "net_kept" ["World"] (mv 0) (mv 1))
  (mSeq (mSetF "rules_kept" ["World"] (mv 0) (mAl (mLC (.nm 2) [2] (mIt (mOp ixO (mv 1) (mc (.int 1)))) mYes (mTup (maCons (mc (.tup [.str "look", .str "put", .str "call"])) (maCons (mTup maNil) maNil))))))
  (mSeq (mSetF "cuts_kept" ["World"] (mv 0) (mAl (mLC (.nm 2) [2] (mIt (mOp ixO (mv 1) (mc (.int 1)))) mYes (mc (.bl false)))))
  (mSeq (mSetF "things_kept" ["World"] (mv 0) (mNewD (.dK [])))
  (mSeq (mSetF "next_kept" ["World"] (mv 0) (mc (.int 0)))
  (mSetF "books" ["World"] (mv 0) (mFl (mLC (.nm 3) [3] (mCL rg1 (maCons (mOp ixO (mv 1) (mc (.int 0))) maNil)) mYes (mMake "Book" 1 m_Book___init__ maNil))))))))))
noncomputable def m_World___init__ : List MV → MH → MR MV := (mRun 4 2 b_World___init__)
noncomputable def b_law_made_k16 : MSt :=
  (mSeq (mSet 1 (mc .non))
  (mSeq (mSet 2 (mc .non))
  (mSeq (mTry (mSet 1 (mMake "World" 2 m_World___init__ (maCons (mv 0) maNil))) [⟨["NoNet"], [], (some 3), (mSet 2 (mv 3))⟩] mNil)
  (mSeq (mIfS (mB (mOp isO (mv 2) (mc .non))) (mRet (mTup (maCons (mv 1) (maCons (mc (.bl false)) maNil)))) mNil)
  (mSeq (mIfS (mB (mIsX ["Cut", "NoField", "NoGarden", "NoHandle", "NoHedge", "NoName", "NoRule", "NoText", "NoValue", "NoWalk", "Shut"] ["Deep", "HedgeError", "Long", "NoDeed", "NoNet", "NoSum", "Unknown"] (mv 2))) (mRet (mTup (maCons (mc .non) (maCons (mc (.bl false)) maNil)))) mNil)
  (mRet (mTup (maCons (mc .non) (maCons (mAndV (mB (mIsX ["NoNet"] ["Cut", "Deep", "HedgeError", "Long", "NoDeed", "NoField", "NoGarden", "NoHandle", "NoHedge", "NoName", "NoRule", "NoSum", "NoText", "NoValue", "NoWalk", "Shut", "Unknown"] (mv 2))) (mIsX ["Cut", "Deep", "HedgeError", "Long", "NoDeed", "NoField", "NoGarden", "NoHandle", "NoHedge", "NoName", "NoNet", "NoRule", "NoSum", "NoText", "NoValue", "NoWalk", "Shut", "Unknown"] [] (mv 2))) maNil)))))))))
noncomputable def m_law_made_k16 : List MV → MH → MR MV := (mRun 4 1 b_law_made_k16)
noncomputable def b_law_draw : MSt :=
  (mSeq (mIfS (mB (mOp gtO (mOp ixO (mv 0) (mc (.int 0))) (mc (.int 0)))) (mSeq (mSet 2 (mOp modO (mOp ixO (mv 0) (mc (.int 0))) (mv 1)))
  (mSeq (mSetIx (mv 0) (mc (.int 0)) (mOp fdivO (mOp ixO (mv 0) (mc (.int 0))) (mv 1)))
  (mRet (mv 2)))) mNil)
  (mSeq (mSetIx (mv 0) (mc (.int 2)) (mOp addO (mOp ixO (mv 0) (mc (.int 2))) (mc (.int 1))))
  (mSeq (mSetIx (mv 0) (mc (.int 1)) (mOp modO (mOp powO (mOp addO (mOp ixO (mv 0) (mc (.int 1))) (mOp mulO (mc (.int 15485863)) (mOp ixO (mv 0) (mc (.int 2))))) (mc (.int 5))) (mc (.int 2147483647))))
  (mRet (mOp modO (mOp fdivO (mOp ixO (mv 0) (mc (.int 1))) (mc (.int 128))) (mv 1))))))
noncomputable def m_law_draw : List MV → MH → MR MV := (mRun 3 2 b_law_draw)
noncomputable def b_law_spoilt_k16 : MSt :=
  (mSeq (mAsg (.tp [6, 7]) (mv 1))
  (mSeq (mSet 2 (mCall 2 m_law_draw (maCons (mv 0) (maCons (mc (.int 12)) maNil))))
  (mSeq (mSet 3 (mOp ixO (mFl (mLst (maCons (mc (.bl true)) (maCons (mc .non) (maCons (mc (.str "2")) (maCons (mOp powO (mc (.int 10)) (mc (.int 39))) (maCons (mNeg (mc (.int 1))) (maCons (mc (.int 0)) (maCons (mc (.int 13)) (maCons (mTup (maCons (mc (.int 1)) maNil)) maNil)))))))))) (mCall 2 m_law_draw (maCons (mv 0) (maCons (mc (.int 8)) maNil)))))
  (mSeq (mIfS (mB (mOp ltO (mv 2) (mc (.int 2)))) (mRet (mv 1)) mNil)
  (mSeq (mIfS (mB (mOp eqO (mv 2) (mc (.int 2)))) (mRet (mTup (maCons (mv 3) (maCons (mv 7) maNil)))) mNil)
  (mSeq (mIfS (mB (mOp eqO (mv 2) (mc (.int 3)))) (mRet (mTup (maCons (mv 6) (maCons (mFl (mCL lstL (maCons (mv 7) maNil))) maNil)))) mNil)
  (mSeq (mIfS (mB (mOp eqO (mv 2) (mc (.int 4)))) (mRet (mTup (maCons (mc (.int 12)) (maCons (mOp addO (mv 7) (mOp mulO (mTup (maCons (mTup (maCons (mc (.int 0)) (maCons (mc (.int 1)) maNil))) maNil)) (mOp subO (mc (.int 21)) (mCB lenC (maCons (mv 7) maNil))))) maNil)))) mNil)
  (mSeq (mIfS (mB (mOp eqO (mv 2) (mc (.int 5)))) (mRet (mOp ixO (mFl (mLst (maCons (mFl (mCL lstL (maCons (mv 1) maNil))) (maCons (mv 6) (maCons (mv 7) (maCons (mc .non) (maCons (mTup maNil) (maCons (mTup (maCons (mv 6) maNil)) (maCons (mTup (maCons (mv 6) (maCons (mv 7) (maCons (mTup maNil) maNil)))) (maCons (mc (.str "net")) (maCons (mNewD (.dK [])) maNil))))))))))) (mCall 2 m_law_draw (maCons (mv 0) (maCons (mc (.int 9)) maNil))))) mNil)
  (mSeq (mSet 4 (mTup (maCons (mc (.int 0)) (maCons (mc (.int 1)) maNil))))
  (mSeq (mIfS (mB (mOp neO (mv 7) (mTup maNil))) (mSet 4 (mOp ixO (mv 7) (mCall 2 m_law_draw (maCons (mv 0) (maCons (mCB lenC (maCons (mv 7) maNil)) maNil))))) mNil)
  (mSeq (mSet 5 (mFl (mLst (maCons (mRev (mv 4)) (maCons (mTup (maCons (mOp ixO (mv 4) (mc (.int 0))) (maCons (mOp ixO (mv 4) (mc (.int 0))) maNil))) (maCons (mTup (maCons (mOp ixO (mv 4) (mc (.int 0))) (maCons (mv 6) maNil))) (maCons (mTup (maCons (mNeg (mc (.int 1))) (maCons (mOp ixO (mv 4) (mc (.int 1))) maNil))) (maCons (mOp addO (mv 4) (mTup (maCons (mc (.int 1)) maNil))) (maCons (mSl (mv 4) poNone (poSome (mc (.int 1)))) (maCons (mFl (mCL lstL (maCons (mv 4) maNil))) maNil))))))))))
  (mSeq (mSet 5 (mOp addO (mv 5) (mFl (mLst (maCons (mTup (maCons (mOp ixO (mv 4) (mc (.int 0))) (maCons (mv 3) maNil))) (maCons (mTup (maCons (mv 3) (maCons (mOp ixO (mv 4) (mc (.int 1))) maNil))) (maCons (mc .non) (maCons (mc (.int 3)) (maCons (mv 4) maNil)))))))))
  (mRet (mTup (maCons (mv 6) (maCons (mOp addO (mv 7) (mTup (maCons (mOp ixO (mv 5) (mCall 2 m_law_draw (maCons (mv 0) (maCons (mc (.int 12)) maNil)))) maNil))) maNil))))))))))))))))
noncomputable def m_law_spoilt_k16 : List MV → MH → MR MV := (mRun 8 2 b_law_spoilt_k16)
noncomputable def b_law_net_k16 : MSt :=
  (mSeq (mSet 1 (mOp addO (mc (.int 1)) (mCall 2 m_law_draw (maCons (mv 0) (maCons (mc (.int 5)) maNil)))))
  (mSeq (mSet 2 (mCall 2 m_law_draw (maCons (mv 0) (maCons (mc (.int 9)) maNil))))
  (mSeq (mIfS (mB (mOp eqO (mCall 2 m_law_draw (maCons (mv 0) (maCons (mc (.int 10)) maNil))) (mc (.int 0)))) (mSeq (mSet 1 (mc (.int 12)))
  (mSet 2 (mc (.int 20)))) mNil)
  (mSeq (mSet 3 (mAl (mLst maNil)))
  (mSeq (mFor (.nm 4) (mCL rg1 (maCons (mOp mulO (mv 2) (mCB intC (maCons (mOp gtO (mv 1) (mc (.int 1))) maNil))) maNil)) (mSeq (mSet 5 (mCall 2 m_law_draw (maCons (mv 0) (maCons (mOp subO (mv 1) (mc (.int 1))) maNil))))
  (mExpr (mM1 isCell appO (mv 3) (mTup (maCons (mv 5) (maCons (mOp addO (mOp addO (mv 5) (mc (.int 1))) (mCall 2 m_law_draw (maCons (mv 0) (maCons (mOp subO (mOp subO (mv 1) (mc (.int 1))) (mv 5)) maNil)))) maNil)))))))
  (mRet (mTup (maCons (mv 1) (maCons (mCB tupC (maCons (mv 3) maNil)) maNil)))))))))
noncomputable def m_law_net_k16 : List MV → MH → MR MV := mDrop (mRun 6 1 b_law_net_k16)
noncomputable def b_law_bag : MSt :=
  (mSeq (mSet 2 (mOp modO (mOp addO (mOp mulO (mOp modO (mv 0) (mc (.int 2147483647))) (mc (.int 69621))) (mOp mulO (mc (.int 7919)) (mOp powO (mOp addO (mv 1) (mc (.int 1))) (mc (.int 3))))) (mc (.int 2147483647))))
  (mRet (mAl (mLst (maCons (mCB maxC (maCons (mc (.int 0)) (maCons (mOp subO (mv 0) (mOp powO (mc (.int 10)) (mc (.int 18)))) maNil))) (maCons (mv 2) (maCons (mv 1) maNil)))))))
noncomputable def m_law_bag : List MV → MH → MR MV := (mRun 3 2 b_law_bag)
noncomputable def b_law_k16 : MSt :=
  (mSeq (mFor (.tp [1, 2]) (mCL enumL (maCons (mOp addO (mFl (mLst (maCons (mCB lenC (maCons (mv 0) maNil)) maNil))) (mSl (mv 0) poNone (poSome (mc (.int 30))))) maNil)) (mSeq (mSet 3 (mCall 2 m_law_bag (maCons (mv 2) (maCons (mv 1) maNil))))
  (mSeq (mSet 4 (mCall 2 m_law_spoilt_k16 (maCons (mv 3) (maCons (mCall 1 m_law_net_k16 (maCons (mv 3) maNil)) maNil))))
  (mSeq (mAsg (.tp [5, 6]) (mCall 1 m_law_made_k16 (maCons (mv 4) maNil)))
  (mIfS (mB (mCall 1 m_law_good_k16 (maCons (mv 4) maNil))) (mIfS (mOr (mB (mOp isO (mv 5) (mc .non))) (mNot (mB (mCall 2 m_law_fresh (maCons (mv 5) (maCons (mv 4) maNil)))))) (mRet (mc (.bl false))) mNil) (mIfS (mNot (mB (mv 6))) (mRet (mc (.bl false))) mNil))))))
  (mRet (mc (.bl true))))
noncomputable def m_law_k16 : List MV → MH → MR MV := mDrop (mRun 7 1 b_law_k16)
end ML

set_option maxRecDepth 100000
set_option maxHeartbeats 4000000
namespace ML
open PySem PySem.Spec PyProof.Rows L2 Builtin.Int
set_option hygiene false
local macro_rules | `(tactic| decreasing_tactic) => `(tactic| (repeat' (first | ((with_reducible apply wp_mv); exact rfl) | (with_reducible refine wp_seq ?_) | (with_reducible refine wp_nil ?_) | (with_reducible refine wp_set ?_) | (with_reducible refine wp_mc ?_) | (with_reducible refine wp_op ?_) | (with_reducible refine wp_B ?_) | (with_reducible refine wp_asB ?_) | (with_reducible refine wp_expr ?_) | (with_reducible refine wp_ret ?_) | (with_reducible refine wp_retN ?_) | (with_reducible refine wp_brk ?_) | (with_reducible refine wp_cnt ?_) | (with_reducible refine wp_setIx ?_) | (with_reducible refine wp_not ?_) | (with_reducible refine wp_notV ?_) | (with_reducible refine wp_isN ?_) | (with_reducible refine wp_notN ?_) | (with_reducible refine wp_neg ?_) | (with_reducible refine wp_negO ?_) | (with_reducible refine wp_maNil ?_) | (with_reducible refine wp_maCons ?_) | (with_reducible refine wp_fl ?_) | (with_reducible refine wp_al ?_) | (with_reducible refine wp_CB ?_) | (with_reducible refine wp_CL ?_) | (with_reducible refine wp_It ?_) | (with_reducible refine wp_ItC ?_) | (with_reducible refine wp_Isi ?_) | (with_reducible refine wp_Rev ?_) | (with_reducible refine wp_poNone ?_) | (with_reducible refine wp_poSome ?_) | (with_reducible refine wp_asI ?_) | (with_reducible refine wp_Sl ?_) | (with_reducible refine wp_SlL ?_) | (with_reducible refine wp_yes ?_) | (with_reducible refine wp_LC ?_) | (with_reducible refine wp_add ?_) | (with_reducible refine wp_sub ?_) | (with_reducible refine wp_cmp ?_) | (with_reducible refine wp_le ?_) | (with_reducible refine wp_ge ?_) | (with_reducible refine wp_eqI ?_) | (with_reducible refine wp_neI ?_) | (with_reducible refine wp_eqS ?_) | (with_reducible refine wp_neS ?_) | (with_reducible refine wp_eqB ?_) | (with_reducible refine wp_neB ?_) | (with_reducible refine wp_slT ?_) | (with_reducible refine wp_slF ?_) | (with_reducible refine wp_slLF ?_) | (with_reducible refine wp_revT ?_) | (with_reducible refine wp_revF ?_) | (with_reducible refine wp_lenT ?_) | (with_reducible refine wp_lenF ?_) | (with_reducible refine wp_max ?_) | (with_reducible refine wp_min ?_) | (with_reducible refine wp_abs ?_) | (with_reducible refine wp_intI ?_) | (with_reducible refine wp_intB ?_) | (with_reducible refine wp_tupT ?_) | (with_reducible refine wp_tupF ?_) | (with_reducible refine wp_lstT ?_) | (with_reducible refine wp_lstF ?_) | (with_reducible refine wp_itT ?_) | (with_reducible refine wp_itF ?_) | (with_reducible refine wp_zipT ?_) | (with_reducible refine wp_zipF ?_) | (with_reducible refine wp_enumF ?_) | (with_reducible refine wp_enumT ?_) | (with_reducible refine wp_cmpS ?_) | (with_reducible refine wp_itS ?_) | (with_reducible refine wp_lsaT ?_) | (with_reducible refine wp_lsaF ?_) | (with_reducible refine wp_AddL ?_) | (with_reducible refine wp_MulL ?_) | (with_reducible refine wp_disp ?_) | (with_reducible refine wp_newD ?_) | (with_reducible refine wp_for ?_) | (with_reducible refine wp_raise ?_) | (with_reducible refine wp_raise1 ?_) | (with_reducible refine wp_try ?_) | (with_reducible refine wp_newX ?_) | (with_reducible refine wp_newX1 ?_) | (with_reducible refine wp_eqNil0 ?_) | (with_reducible refine wp_eqNil1 ?_) | (with_reducible refine wp_isO ?_) | (with_reducible refine wp_isnO ?_) | (with_reducible refine wp_isX ?_) | (with_reducible refine wp_isXn ?_) | (with_reducible refine wp_hdl_0 ?_) | (with_reducible refine wp_FldI ?_) | (with_reducible refine wp_SetF ?_) | (with_reducible refine wp_AugF ?_) | (with_reducible refine wp_Meth ?_) | (with_reducible refine wp_Make ?_) | (with_reducible refine wp_LenI ?_) | (with_reducible refine wq_ifS ?_) | (with_reducible refine wq_and ?_) | (with_reducible refine wq_or ?_) | (with_reducible refine wq_andV ?_) | (with_reducible refine wq_orV ?_) | (with_reducible refine wq_if ?_) | ((with_reducible apply wp_isiK); (first | exact rfl | assumption); (first | exact kb_int_int | exact kb_int_bool | exact kb_int_str | exact kb_int_tuple | exact kb_int_list | exact kb_int_dict | exact kb_bool_int | exact kb_bool_bool | exact kb_bool_str | exact kb_bool_tuple | exact kb_bool_list | exact kb_bool_dict | exact kb_str_int | exact kb_str_bool | exact kb_str_str | exact kb_str_tuple | exact kb_str_list | exact kb_str_dict | exact kb_tuple_int | exact kb_tuple_bool | exact kb_tuple_str | exact kb_tuple_tuple | exact kb_tuple_list | exact kb_tuple_dict | exact kb_list_int | exact kb_list_bool | exact kb_list_str | exact kb_list_tuple | exact kb_list_list | exact kb_list_dict | exact kb_dict_int | exact kb_dict_bool | exact kb_dict_str | exact kb_dict_tuple | exact kb_dict_list | exact kb_dict_dict | exact kb_none_int | exact kb_none_bool | exact kb_none_str | exact kb_none_tuple | exact kb_none_list | exact kb_none_dict)) | (with_reducible refine okB_nT ?_) | (with_reducible refine okB_nF ?_) | (with_reducible refine okB_t ?_) | (with_reducible refine okB_f ?_) | (with_reducible refine okB_nn ?_) | ((with_reducible apply okB_dt); (first | exact rfl | assumption | decide)) | ((with_reducible apply okB_df); (first | exact rfl | assumption | decide)) | ((with_reducible apply okB_nt); (first | exact rfl | assumption | decide)) | ((with_reducible apply okB_nf); (first | exact rfl | assumption | decide)) | (with_reducible refine okB_d (fun hc => ?_) (fun hc => ?_)) | (with_reducible refine okB_n (fun hc => ?_) (fun hc => ?_)) | ((with_reducible apply wp_mod); (first | omega | (simp only [len_add, len_one]; omega) | decide | (simp only [List.length_map, List.length_append, List.length_cons, List.length_nil]; omega) | (simp; done) | (simp <;> omega) | (split <;> omega))) | ((with_reducible apply wp_fdiv); (first | omega | (simp only [len_add, len_one]; omega) | decide | (simp only [List.length_map, List.length_append, List.length_cons, List.length_nil]; omega) | (simp; done) | (simp <;> omega) | (split <;> omega))) | ((with_reducible apply wp_addT); (first | omega | (simp only [len_add, len_one]; omega) | decide | (simp only [List.length_map, List.length_append, List.length_cons, List.length_nil]; omega) | (simp; done) | (simp <;> omega) | (split <;> omega))) | ((with_reducible apply wp_addF); (first | omega | (simp only [len_add, len_one]; omega) | decide | (simp only [List.length_map, List.length_append, List.length_cons, List.length_nil]; omega) | (simp; done) | (simp <;> omega) | (split <;> omega))) | ((with_reducible apply wp_addS); (first | omega | (simp only [len_add, len_one]; omega) | decide | (simp only [List.length_map, List.length_append, List.length_cons, List.length_nil]; omega) | (simp; done) | (simp <;> omega) | (split <;> omega))) | ((with_reducible apply wp_slS); (first | omega | (simp only [len_add, len_one]; omega) | decide | (simp only [List.length_map, List.length_append, List.length_cons, List.length_nil]; omega) | (simp; done) | (simp <;> omega) | (split <;> omega))) | ((with_reducible apply wp_lenS); (first | omega | (simp only [len_add, len_one]; omega) | decide | (simp only [List.length_map, List.length_append, List.length_cons, List.length_nil]; omega) | (simp; done) | (simp <;> omega) | (split <;> omega))) | ((with_reducible apply wp_upper); (first | omega | (simp only [len_add, len_one]; omega) | decide | (simp only [List.length_map, List.length_append, List.length_cons, List.length_nil]; omega) | (simp; done) | (simp <;> omega) | (split <;> omega))) | ((with_reducible apply wp_lsaS); (first | omega | (simp only [len_add, len_one]; omega) | decide | (simp only [List.length_map, List.length_append, List.length_cons, List.length_nil]; omega) | (simp; done) | (simp <;> omega) | (split <;> omega))) | ((with_reducible apply wp_mulT); (first | omega | (simp only [len_add, len_one]; omega) | decide | (simp only [List.length_map, List.length_append, List.length_cons, List.length_nil]; omega) | (simp; done) | (simp <;> omega) | (split <;> omega))) | ((with_reducible apply wp_mulF); (first | omega | (simp only [len_add, len_one]; omega) | decide | (simp only [List.length_map, List.length_append, List.length_cons, List.length_nil]; omega) | (simp; done) | (simp <;> omega) | (split <;> omega))) | ((with_reducible apply wp_rg1); (first | omega | (simp only [len_add, len_one]; omega) | decide | (simp only [List.length_map, List.length_append, List.length_cons, List.length_nil]; omega) | (simp; done) | (simp <;> omega) | (split <;> omega))) | ((with_reducible apply wp_rg2); (first | omega | (simp only [len_add, len_one]; omega) | decide | (simp only [List.length_map, List.length_append, List.length_cons, List.length_nil]; omega) | (simp; done) | (simp <;> omega) | (split <;> omega))) | ((with_reducible apply wp_mulTI); omega; omega; omega) | ((with_reducible apply wp_mulLF); (first | omega | (simp only [len_add, len_one]; omega) | decide | (simp only [List.length_map, List.length_append, List.length_cons, List.length_nil]; omega) | (simp; done) | (simp <;> omega) | (split <;> omega))) | ((with_reducible apply wp_pow); (first | omega | (simp only [len_add, len_one]; omega) | decide | (simp only [List.length_map, List.length_append, List.length_cons, List.length_nil]; omega) | (simp; done) | (simp <;> omega) | (split <;> omega)); try simp only [Int.reduceToNat, Int.reducePow]) | ((with_reducible apply wp_fdivS); omega; omega) | ((with_reducible apply wp_mulR); omega) | ((with_reducible apply wp_mulL); omega) | ((with_reducible apply wp_mulS); omega; omega; omega; omega) | (with_reducible refine wp_tup ?_) | (with_reducible refine wp_lst ?_) | (with_reducible refine wp_call ?_) | (with_reducible refine wp_callK ?_) | ((with_reducible refine And.intro ?_ ?_); ((apply insB_eq); (first | assumption | exact end_get _ _ _); rfl)) | ((with_reducible refine And.intro ?_ ?_); (exact ⟨rfl, rfl, rfl⟩); simp only [permL, List.cons_append, List.nil_append, List.filterMap_cons, List.filterMap_nil, List.getElem?_cons_zero, List.getElem?_cons_succ]) | ((with_reducible refine And.intro ?_ ?_); (first | rfl | decide | (simp; done))) | ((with_reducible apply wp_slR); (first | assumption | exact mid_get _ _ _ | exact loc_get _ _ _ _ _ | exact loc_get2 _ _ _ _ _ _ | exact loc_get3 _ _ _ _ _ _ _ | exact end_get _ _ _ | exact end_get1 _ _ _ _ | exact end_get2 _ _ _ _ _ | (rw [end_getK]; rfl) | (simp [List.getElem?_append] <;> rfl))) | ((with_reducible apply wp_lenR); (first | assumption | exact mid_get _ _ _ | exact loc_get _ _ _ _ _ | exact loc_get2 _ _ _ _ _ _ | exact loc_get3 _ _ _ _ _ _ _ | exact end_get _ _ _ | exact end_get1 _ _ _ _ | exact end_get2 _ _ _ _ _ | (rw [end_getK]; rfl) | (simp [List.getElem?_append] <;> rfl))) | ((with_reducible apply wp_tupR); (first | assumption | exact mid_get _ _ _ | exact loc_get _ _ _ _ _ | exact loc_get2 _ _ _ _ _ _ | exact loc_get3 _ _ _ _ _ _ _ | exact end_get _ _ _ | exact end_get1 _ _ _ _ | exact end_get2 _ _ _ _ _ | (rw [end_getK]; rfl) | (simp [List.getElem?_append] <;> rfl))) | ((with_reducible apply wp_lstR); (first | assumption | exact mid_get _ _ _ | exact loc_get _ _ _ _ _ | exact loc_get2 _ _ _ _ _ _ | exact loc_get3 _ _ _ _ _ _ _ | exact end_get _ _ _ | exact end_get1 _ _ _ _ | exact end_get2 _ _ _ _ _ | (rw [end_getK]; rfl) | (simp [List.getElem?_append] <;> rfl))) | ((with_reducible apply wp_slLR); (first | assumption | exact mid_get _ _ _ | exact loc_get _ _ _ _ _ | exact loc_get2 _ _ _ _ _ _ | exact loc_get3 _ _ _ _ _ _ _ | exact end_get _ _ _ | exact end_get1 _ _ _ _ | exact end_get2 _ _ _ _ _ | (rw [end_getK]; rfl) | (simp [List.getElem?_append] <;> rfl))) | ((with_reducible apply wp_asC); (first | assumption | exact mid_get _ _ _ | exact loc_get _ _ _ _ _ | exact loc_get2 _ _ _ _ _ _ | exact loc_get3 _ _ _ _ _ _ _ | exact end_get _ _ _ | exact end_get1 _ _ _ _ | exact end_get2 _ _ _ _ _ | (rw [end_getK]; rfl) | (simp [List.getElem?_append] <;> rfl))) | ((with_reducible apply wp_fldI); (first | assumption | exact mid_get _ _ _ | exact loc_get _ _ _ _ _ | exact loc_get2 _ _ _ _ _ _ | exact loc_get3 _ _ _ _ _ _ _ | exact end_get _ _ _ | exact end_get1 _ _ _ _ | exact end_get2 _ _ _ _ _ | (rw [end_getK]; rfl) | (simp [List.getElem?_append] <;> rfl)); (first | decide | (simp; done)); rfl) | ((with_reducible apply wp_lenD); (first | assumption | exact mid_get _ _ _ | exact loc_get _ _ _ _ _ | exact loc_get2 _ _ _ _ _ _ | exact loc_get3 _ _ _ _ _ _ _ | exact end_get _ _ _ | exact end_get1 _ _ _ _ | exact end_get2 _ _ _ _ _ | (rw [end_getK]; rfl) | (simp [List.getElem?_append] <;> rfl))) | ((with_reducible apply wp_ixR); (first | assumption | exact mid_get _ _ _ | exact loc_get _ _ _ _ _ | exact loc_get2 _ _ _ _ _ _ | exact loc_get3 _ _ _ _ _ _ _ | exact end_get _ _ _ | exact end_get1 _ _ _ _ | exact end_get2 _ _ _ _ _ | (rw [end_getK]; rfl) | (simp [List.getElem?_append] <;> rfl)); (first | assumption | exact atI_0 | exact atI_1 | exact atI_2 | exact atI_3 | rfl)) | ((with_reducible apply wp_ixF); (first | assumption | exact atI_0 | exact atI_1 | exact atI_2 | exact atI_3 | rfl)) | ((with_reducible apply wp_ixT); (first | assumption | exact atI_0 | exact atI_1 | exact atI_2 | exact atI_3 | rfl)) | ((with_reducible apply wp_set_); (first | assumption | exact mid_get _ _ _ | exact loc_get _ _ _ _ _ | exact loc_get2 _ _ _ _ _ _ | exact loc_get3 _ _ _ _ _ _ _ | exact end_get _ _ _ | exact end_get1 _ _ _ _ | exact end_get2 _ _ _ _ _ | (rw [end_getK]; rfl) | (simp [List.getElem?_append] <;> rfl)); (first | assumption | exact ixN_0 (by simp) | exact ixN_1 (by simp) | exact ixN_2 (by simp))) | ((with_reducible apply wp_app); (first | assumption | exact mid_get _ _ _ | exact loc_get _ _ _ _ _ | exact loc_get2 _ _ _ _ _ _ | exact loc_get3 _ _ _ _ _ _ _ | exact end_get _ _ _ | exact end_get1 _ _ _ _ | exact end_get2 _ _ _ _ _ | (rw [end_getK]; rfl) | (simp [List.getElem?_append] <;> rfl)); (first | omega | (simp only [len_add, len_one]; omega) | decide | (simp only [List.length_map, List.length_append, List.length_cons, List.length_nil]; omega) | (simp; done) | (simp <;> omega) | (split <;> omega))) | ((with_reducible apply wp_addLRF); (first | assumption | exact mid_get _ _ _ | exact loc_get _ _ _ _ _ | exact loc_get2 _ _ _ _ _ _ | exact loc_get3 _ _ _ _ _ _ _ | exact end_get _ _ _ | exact end_get1 _ _ _ _ | exact end_get2 _ _ _ _ _ | (rw [end_getK]; rfl) | (simp [List.getElem?_append] <;> rfl)); (first | omega | (simp only [len_add, len_one]; omega) | decide | (simp only [List.length_map, List.length_append, List.length_cons, List.length_nil]; omega) | (simp; done) | (simp <;> omega) | (split <;> omega))) | ((with_reducible apply wp_addLFF); (first | omega | (simp only [len_add, len_one]; omega) | decide | (simp only [List.length_map, List.length_append, List.length_cons, List.length_nil]; omega) | (simp; done) | (simp <;> omega) | (split <;> omega))) | ((with_reducible apply wp_addLRR); (first | assumption | exact mid_get _ _ _ | exact loc_get _ _ _ _ _ | exact loc_get2 _ _ _ _ _ _ | exact loc_get3 _ _ _ _ _ _ _ | exact end_get _ _ _ | exact end_get1 _ _ _ _ | exact end_get2 _ _ _ _ _ | (rw [end_getK]; rfl) | (simp [List.getElem?_append] <;> rfl)); (first | assumption | exact mid_get _ _ _ | exact loc_get _ _ _ _ _ | exact loc_get2 _ _ _ _ _ _ | exact loc_get3 _ _ _ _ _ _ _ | exact end_get _ _ _ | exact end_get1 _ _ _ _ | exact end_get2 _ _ _ _ _ | (rw [end_getK]; rfl) | (simp [List.getElem?_append] <;> rfl)); (first | omega | (simp only [len_add, len_one]; omega) | decide | (simp only [List.length_map, List.length_append, List.length_cons, List.length_nil]; omega) | (simp; done) | (simp <;> omega) | (split <;> omega))) | (with_reducible refine wp_M1 ?_) | (with_reducible refine wp_M0 ?_) | ((with_reducible refine And.intro ?_ ?_); (with_reducible apply isCell_of); (first | assumption | exact mid_get _ _ _ | exact loc_get _ _ _ _ _ | exact loc_get2 _ _ _ _ _ _ | exact loc_get3 _ _ _ _ _ _ _ | exact end_get _ _ _ | exact end_get1 _ _ _ _ | exact end_get2 _ _ _ _ _ | (rw [end_getK]; rfl) | (simp [List.getElem?_append] <;> rfl))) | ((with_reducible apply pull_wp); assumption; omega; (first | omega | (simp only [len_add, len_one]; omega) | decide | (simp only [List.length_map, List.length_append, List.length_cons, List.length_nil]; omega) | (simp; done) | (simp <;> omega) | (split <;> omega)); (first | omega | (simp only [len_add, len_one]; omega) | decide | (simp only [List.length_map, List.length_append, List.length_cons, List.length_nil]; omega) | (simp; done) | (simp <;> omega) | (split <;> omega)); intro r u' hu' hr0 hr1) | (with_reducible refine wp_asg ?_) | ((with_reducible apply asgT); exact rfl) | ((with_reducible apply wp_in); (first | assumption | exact inB_one | exact inB_int2 | exact inB_intT | exact inB_intF)) | ((with_reducible apply wp_nin); (first | assumption | exact inB_one | exact inB_int2 | exact inB_intT | exact inB_intF)) | ((with_reducible apply wp_hdl_y); (first | decide | (simp; done))) | ((with_reducible apply wp_hdl_yn); (first | decide | (simp; done))) | ((with_reducible apply wp_hdl_n); (first | decide | (simp; done)); (first | decide | (simp; done))) | ((with_reducible apply wp_isXy); (first | assumption | exact mid_get _ _ _ | exact loc_get _ _ _ _ _ | exact loc_get2 _ _ _ _ _ _ | exact loc_get3 _ _ _ _ _ _ _ | exact end_get _ _ _ | exact end_get1 _ _ _ _ | exact end_get2 _ _ _ _ _ | (rw [end_getK]; rfl) | (simp [List.getElem?_append] <;> rfl)); (first | decide | (simp; done))) | ((with_reducible apply wp_isXf); (first | assumption | exact mid_get _ _ _ | exact loc_get _ _ _ _ _ | exact loc_get2 _ _ _ _ _ _ | exact loc_get3 _ _ _ _ _ _ _ | exact end_get _ _ _ | exact end_get1 _ _ _ _ | exact end_get2 _ _ _ _ _ | (rw [end_getK]; rfl) | (simp [List.getElem?_append] <;> rfl)); (first | decide | (simp; done)); (first | decide | (simp; done))) | ((with_reducible apply wp_ne); (first | assumption | exact eqB_intT | exact eqB_intF | (apply eqB_nilR; (first | assumption | exact mid_get _ _ _ | exact loc_get _ _ _ _ _ | exact loc_get2 _ _ _ _ _ _ | exact loc_get3 _ _ _ _ _ _ _ | exact end_get _ _ _ | exact end_get1 _ _ _ _ | exact end_get2 _ _ _ _ _ | (rw [end_getK]; rfl) | (simp [List.getElem?_append] <;> rfl)); (first | exact ints_dat _ _ | assumption | rfl | (simp [datN, datNs]; done))) | (apply eqB_nilF; (first | exact ints_dat _ _ | assumption | rfl | (simp [datN, datNs]; done))) | (apply eqB_nilT; (first | exact ints_dat _ _ | assumption | rfl | (simp [datN, datNs]; done))))) | ((with_reducible apply wp_eq); (first | assumption | exact eqB_intT | exact eqB_intF | (apply eqB_nilR; (first | assumption | exact mid_get _ _ _ | exact loc_get _ _ _ _ _ | exact loc_get2 _ _ _ _ _ _ | exact loc_get3 _ _ _ _ _ _ _ | exact end_get _ _ _ | exact end_get1 _ _ _ _ | exact end_get2 _ _ _ _ _ | (rw [end_getK]; rfl) | (simp [List.getElem?_append] <;> rfl)); (first | exact ints_dat _ _ | assumption | rfl | (simp [datN, datNs]; done))) | (apply eqB_nilF; (first | exact ints_dat _ _ | assumption | rfl | (simp [datN, datNs]; done))) | (apply eqB_nilT; (first | exact ints_dat _ _ | assumption | rfl | (simp [datN, datNs]; done))))) | ((with_reducible refine And.intro ?_ ?_); exact (rfl : isTxt _ (MV.str _) = true)) | (simp only [mid_set, loc_set, loc_set2, loc_set3, end_set, end_set1, end_set2, end_setK, List.set_cons_succ, List.set_cons_zero, List.length_append, List.length_set, List.length_cons, List.length_nil, List.append_assoc, List.cons_append, List.nil_append, Nat.zero_add, Nat.add_zero, cutM_map, ← List.map_append, repl_map, List.length_map, ← List.map_reverse, isNO_non, isNO_int, isNO_bl, isNO_str, isNO_ref, isNO_tup, isNO_fl]) | fail)))
local macro_rules | `(tactic| decreasing_trivial) => `(tactic| (repeat' (first | ((with_reducible apply wp_mv); exact rfl) | (with_reducible refine wp_seq ?_) | (with_reducible refine wp_nil ?_) | (with_reducible refine wp_set ?_) | (with_reducible refine wp_mc ?_) | (with_reducible refine wp_op ?_) | (with_reducible refine wp_B ?_) | (with_reducible refine wp_asB ?_) | (with_reducible refine wp_expr ?_) | (with_reducible refine wp_ret ?_) | (with_reducible refine wp_retN ?_) | (with_reducible refine wp_brk ?_) | (with_reducible refine wp_cnt ?_) | (with_reducible refine wp_setIx ?_) | (with_reducible refine wp_not ?_) | (with_reducible refine wp_notV ?_) | (with_reducible refine wp_isN ?_) | (with_reducible refine wp_notN ?_) | (with_reducible refine wp_neg ?_) | (with_reducible refine wp_negO ?_) | (with_reducible refine wp_maNil ?_) | (with_reducible refine wp_maCons ?_) | (with_reducible refine wp_fl ?_) | (with_reducible refine wp_al ?_) | (with_reducible refine wp_CB ?_) | (with_reducible refine wp_CL ?_) | (with_reducible refine wp_It ?_) | (with_reducible refine wp_ItC ?_) | (with_reducible refine wp_Isi ?_) | (with_reducible refine wp_Rev ?_) | (with_reducible refine wp_poNone ?_) | (with_reducible refine wp_poSome ?_) | (with_reducible refine wp_asI ?_) | (with_reducible refine wp_Sl ?_) | (with_reducible refine wp_SlL ?_) | (with_reducible refine wp_yes ?_) | (with_reducible refine wp_LC ?_) | (with_reducible refine wp_add ?_) | (with_reducible refine wp_sub ?_) | (with_reducible refine wp_cmp ?_) | (with_reducible refine wp_le ?_) | (with_reducible refine wp_ge ?_) | (with_reducible refine wp_eqI ?_) | (with_reducible refine wp_neI ?_) | (with_reducible refine wp_eqS ?_) | (with_reducible refine wp_neS ?_) | (with_reducible refine wp_eqB ?_) | (with_reducible refine wp_neB ?_) | (with_reducible refine wp_slT ?_) | (with_reducible refine wp_slF ?_) | (with_reducible refine wp_slLF ?_) | (with_reducible refine wp_revT ?_) | (with_reducible refine wp_revF ?_) | (with_reducible refine wp_lenT ?_) | (with_reducible refine wp_lenF ?_) | (with_reducible refine wp_max ?_) | (with_reducible refine wp_min ?_) | (with_reducible refine wp_abs ?_) | (with_reducible refine wp_intI ?_) | (with_reducible refine wp_intB ?_) | (with_reducible refine wp_tupT ?_) | (with_reducible refine wp_tupF ?_) | (with_reducible refine wp_lstT ?_) | (with_reducible refine wp_lstF ?_) | (with_reducible refine wp_itT ?_) | (with_reducible refine wp_itF ?_) | (with_reducible refine wp_zipT ?_) | (with_reducible refine wp_zipF ?_) | (with_reducible refine wp_enumF ?_) | (with_reducible refine wp_enumT ?_) | (with_reducible refine wp_cmpS ?_) | (with_reducible refine wp_itS ?_) | (with_reducible refine wp_lsaT ?_) | (with_reducible refine wp_lsaF ?_) | (with_reducible refine wp_AddL ?_) | (with_reducible refine wp_MulL ?_) | (with_reducible refine wp_disp ?_) | (with_reducible refine wp_newD ?_) | (with_reducible refine wp_for ?_) | (with_reducible refine wp_raise ?_) | (with_reducible refine wp_raise1 ?_) | (with_reducible refine wp_try ?_) | (with_reducible refine wp_newX ?_) | (with_reducible refine wp_newX1 ?_) | (with_reducible refine wp_eqNil0 ?_) | (with_reducible refine wp_eqNil1 ?_) | (with_reducible refine wp_isO ?_) | (with_reducible refine wp_isnO ?_) | (with_reducible refine wp_isX ?_) | (with_reducible refine wp_isXn ?_) | (with_reducible refine wp_hdl_0 ?_) | (with_reducible refine wp_FldI ?_) | (with_reducible refine wp_SetF ?_) | (with_reducible refine wp_AugF ?_) | (with_reducible refine wp_Meth ?_) | (with_reducible refine wp_Make ?_) | (with_reducible refine wp_LenI ?_) | (with_reducible refine wq_and ?_) | (with_reducible refine wq_or ?_) | (with_reducible refine wq_andV ?_) | (with_reducible refine wq_orV ?_) | (with_reducible refine wq_if ?_) | ((with_reducible apply wp_isiK); (first | exact rfl | assumption); (first | exact kb_int_int | exact kb_int_bool | exact kb_int_str | exact kb_int_tuple | exact kb_int_list | exact kb_int_dict | exact kb_bool_int | exact kb_bool_bool | exact kb_bool_str | exact kb_bool_tuple | exact kb_bool_list | exact kb_bool_dict | exact kb_str_int | exact kb_str_bool | exact kb_str_str | exact kb_str_tuple | exact kb_str_list | exact kb_str_dict | exact kb_tuple_int | exact kb_tuple_bool | exact kb_tuple_str | exact kb_tuple_tuple | exact kb_tuple_list | exact kb_tuple_dict | exact kb_list_int | exact kb_list_bool | exact kb_list_str | exact kb_list_tuple | exact kb_list_list | exact kb_list_dict | exact kb_dict_int | exact kb_dict_bool | exact kb_dict_str | exact kb_dict_tuple | exact kb_dict_list | exact kb_dict_dict | exact kb_none_int | exact kb_none_bool | exact kb_none_str | exact kb_none_tuple | exact kb_none_list | exact kb_none_dict)) | (with_reducible refine okB_nT ?_) | (with_reducible refine okB_nF ?_) | (with_reducible refine okB_t ?_) | (with_reducible refine okB_f ?_) | (with_reducible refine okB_nn ?_) | ((with_reducible apply okB_dt); (first | exact rfl | assumption | decide)) | ((with_reducible apply okB_df); (first | exact rfl | assumption | decide)) | ((with_reducible apply okB_nt); (first | exact rfl | assumption | decide)) | ((with_reducible apply okB_nf); (first | exact rfl | assumption | decide)) | (with_reducible refine okB_d (fun hc => ?_) (fun hc => ?_)) | (with_reducible refine okB_n (fun hc => ?_) (fun hc => ?_)) | ((with_reducible apply wp_mod); (first | omega | (simp only [len_add, len_one]; omega) | decide | (simp only [List.length_map, List.length_append, List.length_cons, List.length_nil]; omega) | (simp; done) | (simp <;> omega) | (split <;> omega))) | ((with_reducible apply wp_fdiv); (first | omega | (simp only [len_add, len_one]; omega) | decide | (simp only [List.length_map, List.length_append, List.length_cons, List.length_nil]; omega) | (simp; done) | (simp <;> omega) | (split <;> omega))) | ((with_reducible apply wp_addT); (first | omega | (simp only [len_add, len_one]; omega) | decide | (simp only [List.length_map, List.length_append, List.length_cons, List.length_nil]; omega) | (simp; done) | (simp <;> omega) | (split <;> omega))) | ((with_reducible apply wp_addF); (first | omega | (simp only [len_add, len_one]; omega) | decide | (simp only [List.length_map, List.length_append, List.length_cons, List.length_nil]; omega) | (simp; done) | (simp <;> omega) | (split <;> omega))) | ((with_reducible apply wp_addS); (first | omega | (simp only [len_add, len_one]; omega) | decide | (simp only [List.length_map, List.length_append, List.length_cons, List.length_nil]; omega) | (simp; done) | (simp <;> omega) | (split <;> omega))) | ((with_reducible apply wp_slS); (first | omega | (simp only [len_add, len_one]; omega) | decide | (simp only [List.length_map, List.length_append, List.length_cons, List.length_nil]; omega) | (simp; done) | (simp <;> omega) | (split <;> omega))) | ((with_reducible apply wp_lenS); (first | omega | (simp only [len_add, len_one]; omega) | decide | (simp only [List.length_map, List.length_append, List.length_cons, List.length_nil]; omega) | (simp; done) | (simp <;> omega) | (split <;> omega))) | ((with_reducible apply wp_upper); (first | omega | (simp only [len_add, len_one]; omega) | decide | (simp only [List.length_map, List.length_append, List.length_cons, List.length_nil]; omega) | (simp; done) | (simp <;> omega) | (split <;> omega))) | ((with_reducible apply wp_lsaS); (first | omega | (simp only [len_add, len_one]; omega) | decide | (simp only [List.length_map, List.length_append, List.length_cons, List.length_nil]; omega) | (simp; done) | (simp <;> omega) | (split <;> omega))) | ((with_reducible apply wp_mulT); (first | omega | (simp only [len_add, len_one]; omega) | decide | (simp only [List.length_map, List.length_append, List.length_cons, List.length_nil]; omega) | (simp; done) | (simp <;> omega) | (split <;> omega))) | ((with_reducible apply wp_mulF); (first | omega | (simp only [len_add, len_one]; omega) | decide | (simp only [List.length_map, List.length_append, List.length_cons, List.length_nil]; omega) | (simp; done) | (simp <;> omega) | (split <;> omega))) | ((with_reducible apply wp_rg1); (first | omega | (simp only [len_add, len_one]; omega) | decide | (simp only [List.length_map, List.length_append, List.length_cons, List.length_nil]; omega) | (simp; done) | (simp <;> omega) | (split <;> omega))) | ((with_reducible apply wp_rg2); (first | omega | (simp only [len_add, len_one]; omega) | decide | (simp only [List.length_map, List.length_append, List.length_cons, List.length_nil]; omega) | (simp; done) | (simp <;> omega) | (split <;> omega))) | ((with_reducible apply wp_mulTI); omega; omega; omega) | ((with_reducible apply wp_mulLF); (first | omega | (simp only [len_add, len_one]; omega) | decide | (simp only [List.length_map, List.length_append, List.length_cons, List.length_nil]; omega) | (simp; done) | (simp <;> omega) | (split <;> omega))) | ((with_reducible apply wp_pow); (first | omega | (simp only [len_add, len_one]; omega) | decide | (simp only [List.length_map, List.length_append, List.length_cons, List.length_nil]; omega) | (simp; done) | (simp <;> omega) | (split <;> omega)); try simp only [Int.reduceToNat, Int.reducePow]) | ((with_reducible apply wp_fdivS); omega; omega) | ((with_reducible apply wp_mulR); omega) | ((with_reducible apply wp_mulL); omega) | ((with_reducible apply wp_mulS); omega; omega; omega; omega) | (with_reducible refine wp_tup ?_) | (with_reducible refine wp_lst ?_) | (with_reducible refine wp_call ?_) | (with_reducible refine wp_callK ?_) | ((with_reducible refine And.intro ?_ ?_); ((apply insB_eq); (first | assumption | exact end_get _ _ _); rfl)) | ((with_reducible refine And.intro ?_ ?_); (exact ⟨rfl, rfl, rfl⟩); simp only [permL, List.cons_append, List.nil_append, List.filterMap_cons, List.filterMap_nil, List.getElem?_cons_zero, List.getElem?_cons_succ]) | ((with_reducible refine And.intro ?_ ?_); (first | rfl | decide | (simp; done))) | ((with_reducible apply wp_slR); (first | assumption | exact mid_get _ _ _ | exact loc_get _ _ _ _ _ | exact loc_get2 _ _ _ _ _ _ | exact loc_get3 _ _ _ _ _ _ _ | exact end_get _ _ _ | exact end_get1 _ _ _ _ | exact end_get2 _ _ _ _ _ | (rw [end_getK]; rfl) | (simp [List.getElem?_append] <;> rfl))) | ((with_reducible apply wp_lenR); (first | assumption | exact mid_get _ _ _ | exact loc_get _ _ _ _ _ | exact loc_get2 _ _ _ _ _ _ | exact loc_get3 _ _ _ _ _ _ _ | exact end_get _ _ _ | exact end_get1 _ _ _ _ | exact end_get2 _ _ _ _ _ | (rw [end_getK]; rfl) | (simp [List.getElem?_append] <;> rfl))) | ((with_reducible apply wp_tupR); (first | assumption | exact mid_get _ _ _ | exact loc_get _ _ _ _ _ | exact loc_get2 _ _ _ _ _ _ | exact loc_get3 _ _ _ _ _ _ _ | exact end_get _ _ _ | exact end_get1 _ _ _ _ | exact end_get2 _ _ _ _ _ | (rw [end_getK]; rfl) | (simp [List.getElem?_append] <;> rfl))) | ((with_reducible apply wp_lstR); (first | assumption | exact mid_get _ _ _ | exact loc_get _ _ _ _ _ | exact loc_get2 _ _ _ _ _ _ | exact loc_get3 _ _ _ _ _ _ _ | exact end_get _ _ _ | exact end_get1 _ _ _ _ | exact end_get2 _ _ _ _ _ | (rw [end_getK]; rfl) | (simp [List.getElem?_append] <;> rfl))) | ((with_reducible apply wp_slLR); (first | assumption | exact mid_get _ _ _ | exact loc_get _ _ _ _ _ | exact loc_get2 _ _ _ _ _ _ | exact loc_get3 _ _ _ _ _ _ _ | exact end_get _ _ _ | exact end_get1 _ _ _ _ | exact end_get2 _ _ _ _ _ | (rw [end_getK]; rfl) | (simp [List.getElem?_append] <;> rfl))) | ((with_reducible apply wp_asC); (first | assumption | exact mid_get _ _ _ | exact loc_get _ _ _ _ _ | exact loc_get2 _ _ _ _ _ _ | exact loc_get3 _ _ _ _ _ _ _ | exact end_get _ _ _ | exact end_get1 _ _ _ _ | exact end_get2 _ _ _ _ _ | (rw [end_getK]; rfl) | (simp [List.getElem?_append] <;> rfl))) | ((with_reducible apply wp_fldI); (first | assumption | exact mid_get _ _ _ | exact loc_get _ _ _ _ _ | exact loc_get2 _ _ _ _ _ _ | exact loc_get3 _ _ _ _ _ _ _ | exact end_get _ _ _ | exact end_get1 _ _ _ _ | exact end_get2 _ _ _ _ _ | (rw [end_getK]; rfl) | (simp [List.getElem?_append] <;> rfl)); (first | decide | (simp; done)); rfl) | ((with_reducible apply wp_lenD); (first | assumption | exact mid_get _ _ _ | exact loc_get _ _ _ _ _ | exact loc_get2 _ _ _ _ _ _ | exact loc_get3 _ _ _ _ _ _ _ | exact end_get _ _ _ | exact end_get1 _ _ _ _ | exact end_get2 _ _ _ _ _ | (rw [end_getK]; rfl) | (simp [List.getElem?_append] <;> rfl))) | ((with_reducible apply wp_ixR); (first | assumption | exact mid_get _ _ _ | exact loc_get _ _ _ _ _ | exact loc_get2 _ _ _ _ _ _ | exact loc_get3 _ _ _ _ _ _ _ | exact end_get _ _ _ | exact end_get1 _ _ _ _ | exact end_get2 _ _ _ _ _ | (rw [end_getK]; rfl) | (simp [List.getElem?_append] <;> rfl)); (first | assumption | exact atI_0 | exact atI_1 | exact atI_2 | exact atI_3 | rfl)) | ((with_reducible apply wp_ixF); (first | assumption | exact atI_0 | exact atI_1 | exact atI_2 | exact atI_3 | rfl)) | ((with_reducible apply wp_ixT); (first | assumption | exact atI_0 | exact atI_1 | exact atI_2 | exact atI_3 | rfl)) | ((with_reducible apply wp_set_); (first | assumption | exact mid_get _ _ _ | exact loc_get _ _ _ _ _ | exact loc_get2 _ _ _ _ _ _ | exact loc_get3 _ _ _ _ _ _ _ | exact end_get _ _ _ | exact end_get1 _ _ _ _ | exact end_get2 _ _ _ _ _ | (rw [end_getK]; rfl) | (simp [List.getElem?_append] <;> rfl)); (first | assumption | exact ixN_0 (by simp) | exact ixN_1 (by simp) | exact ixN_2 (by simp))) | ((with_reducible apply wp_app); (first | assumption | exact mid_get _ _ _ | exact loc_get _ _ _ _ _ | exact loc_get2 _ _ _ _ _ _ | exact loc_get3 _ _ _ _ _ _ _ | exact end_get _ _ _ | exact end_get1 _ _ _ _ | exact end_get2 _ _ _ _ _ | (rw [end_getK]; rfl) | (simp [List.getElem?_append] <;> rfl)); (first | omega | (simp only [len_add, len_one]; omega) | decide | (simp only [List.length_map, List.length_append, List.length_cons, List.length_nil]; omega) | (simp; done) | (simp <;> omega) | (split <;> omega))) | ((with_reducible apply wp_addLRF); (first | assumption | exact mid_get _ _ _ | exact loc_get _ _ _ _ _ | exact loc_get2 _ _ _ _ _ _ | exact loc_get3 _ _ _ _ _ _ _ | exact end_get _ _ _ | exact end_get1 _ _ _ _ | exact end_get2 _ _ _ _ _ | (rw [end_getK]; rfl) | (simp [List.getElem?_append] <;> rfl)); (first | omega | (simp only [len_add, len_one]; omega) | decide | (simp only [List.length_map, List.length_append, List.length_cons, List.length_nil]; omega) | (simp; done) | (simp <;> omega) | (split <;> omega))) | ((with_reducible apply wp_addLFF); (first | omega | (simp only [len_add, len_one]; omega) | decide | (simp only [List.length_map, List.length_append, List.length_cons, List.length_nil]; omega) | (simp; done) | (simp <;> omega) | (split <;> omega))) | ((with_reducible apply wp_addLRR); (first | assumption | exact mid_get _ _ _ | exact loc_get _ _ _ _ _ | exact loc_get2 _ _ _ _ _ _ | exact loc_get3 _ _ _ _ _ _ _ | exact end_get _ _ _ | exact end_get1 _ _ _ _ | exact end_get2 _ _ _ _ _ | (rw [end_getK]; rfl) | (simp [List.getElem?_append] <;> rfl)); (first | assumption | exact mid_get _ _ _ | exact loc_get _ _ _ _ _ | exact loc_get2 _ _ _ _ _ _ | exact loc_get3 _ _ _ _ _ _ _ | exact end_get _ _ _ | exact end_get1 _ _ _ _ | exact end_get2 _ _ _ _ _ | (rw [end_getK]; rfl) | (simp [List.getElem?_append] <;> rfl)); (first | omega | (simp only [len_add, len_one]; omega) | decide | (simp only [List.length_map, List.length_append, List.length_cons, List.length_nil]; omega) | (simp; done) | (simp <;> omega) | (split <;> omega))) | (with_reducible refine wp_M1 ?_) | (with_reducible refine wp_M0 ?_) | ((with_reducible refine And.intro ?_ ?_); (with_reducible apply isCell_of); (first | assumption | exact mid_get _ _ _ | exact loc_get _ _ _ _ _ | exact loc_get2 _ _ _ _ _ _ | exact loc_get3 _ _ _ _ _ _ _ | exact end_get _ _ _ | exact end_get1 _ _ _ _ | exact end_get2 _ _ _ _ _ | (rw [end_getK]; rfl) | (simp [List.getElem?_append] <;> rfl))) | ((with_reducible apply pull_wp); assumption; omega; (first | omega | (simp only [len_add, len_one]; omega) | decide | (simp only [List.length_map, List.length_append, List.length_cons, List.length_nil]; omega) | (simp; done) | (simp <;> omega) | (split <;> omega)); (first | omega | (simp only [len_add, len_one]; omega) | decide | (simp only [List.length_map, List.length_append, List.length_cons, List.length_nil]; omega) | (simp; done) | (simp <;> omega) | (split <;> omega)); intro r u' hu' hr0 hr1) | (with_reducible refine wp_asg ?_) | ((with_reducible apply asgT); exact rfl) | ((with_reducible apply wp_in); (first | assumption | exact inB_one | exact inB_int2 | exact inB_intT | exact inB_intF)) | ((with_reducible apply wp_nin); (first | assumption | exact inB_one | exact inB_int2 | exact inB_intT | exact inB_intF)) | ((with_reducible apply wp_hdl_y); (first | decide | (simp; done))) | ((with_reducible apply wp_hdl_yn); (first | decide | (simp; done))) | ((with_reducible apply wp_hdl_n); (first | decide | (simp; done)); (first | decide | (simp; done))) | ((with_reducible apply wp_isXy); (first | assumption | exact mid_get _ _ _ | exact loc_get _ _ _ _ _ | exact loc_get2 _ _ _ _ _ _ | exact loc_get3 _ _ _ _ _ _ _ | exact end_get _ _ _ | exact end_get1 _ _ _ _ | exact end_get2 _ _ _ _ _ | (rw [end_getK]; rfl) | (simp [List.getElem?_append] <;> rfl)); (first | decide | (simp; done))) | ((with_reducible apply wp_isXf); (first | assumption | exact mid_get _ _ _ | exact loc_get _ _ _ _ _ | exact loc_get2 _ _ _ _ _ _ | exact loc_get3 _ _ _ _ _ _ _ | exact end_get _ _ _ | exact end_get1 _ _ _ _ | exact end_get2 _ _ _ _ _ | (rw [end_getK]; rfl) | (simp [List.getElem?_append] <;> rfl)); (first | decide | (simp; done)); (first | decide | (simp; done))) | ((with_reducible apply wp_ne); (first | assumption | exact eqB_intT | exact eqB_intF | (apply eqB_nilR; (first | assumption | exact mid_get _ _ _ | exact loc_get _ _ _ _ _ | exact loc_get2 _ _ _ _ _ _ | exact loc_get3 _ _ _ _ _ _ _ | exact end_get _ _ _ | exact end_get1 _ _ _ _ | exact end_get2 _ _ _ _ _ | (rw [end_getK]; rfl) | (simp [List.getElem?_append] <;> rfl)); (first | exact ints_dat _ _ | assumption | rfl | (simp [datN, datNs]; done))) | (apply eqB_nilF; (first | exact ints_dat _ _ | assumption | rfl | (simp [datN, datNs]; done))) | (apply eqB_nilT; (first | exact ints_dat _ _ | assumption | rfl | (simp [datN, datNs]; done))))) | ((with_reducible apply wp_eq); (first | assumption | exact eqB_intT | exact eqB_intF | (apply eqB_nilR; (first | assumption | exact mid_get _ _ _ | exact loc_get _ _ _ _ _ | exact loc_get2 _ _ _ _ _ _ | exact loc_get3 _ _ _ _ _ _ _ | exact end_get _ _ _ | exact end_get1 _ _ _ _ | exact end_get2 _ _ _ _ _ | (rw [end_getK]; rfl) | (simp [List.getElem?_append] <;> rfl)); (first | exact ints_dat _ _ | assumption | rfl | (simp [datN, datNs]; done))) | (apply eqB_nilF; (first | exact ints_dat _ _ | assumption | rfl | (simp [datN, datNs]; done))) | (apply eqB_nilT; (first | exact ints_dat _ _ | assumption | rfl | (simp [datN, datNs]; done))))) | ((with_reducible refine And.intro ?_ ?_); exact (rfl : isTxt _ (MV.str _) = true)) | (simp only [mid_set, loc_set, loc_set2, loc_set3, end_set, end_set1, end_set2, end_setK, List.set_cons_succ, List.set_cons_zero, List.length_append, List.length_set, List.length_cons, List.length_nil, List.append_assoc, List.cons_append, List.nil_append, Nat.zero_add, Nat.add_zero, cutM_map, ← List.map_append, repl_map, List.length_map, ← List.map_reverse, isNO_non, isNO_int, isNO_bl, isNO_str, isNO_ref, isNO_tup, isNO_fl]) | fail)))
local macro_rules | `(tactic| decreasing_trivial_pre_omega) => `(tactic| (repeat' (first | ((with_reducible apply wp_mv); exact rfl) | (with_reducible refine wp_seq ?_) | (with_reducible refine wp_nil ?_) | (with_reducible refine wp_set ?_) | (with_reducible refine wp_mc ?_) | (with_reducible refine wp_op ?_) | (with_reducible refine wp_B ?_) | (with_reducible refine wp_asB ?_) | (with_reducible refine wp_expr ?_) | (with_reducible refine wp_ret ?_) | (with_reducible refine wp_retN ?_) | (with_reducible refine wp_brk ?_) | (with_reducible refine wp_cnt ?_) | (with_reducible refine wp_setIx ?_) | (with_reducible refine wp_not ?_) | (with_reducible refine wp_notV ?_) | (with_reducible refine wp_isN ?_) | (with_reducible refine wp_notN ?_) | (with_reducible refine wp_neg ?_) | (with_reducible refine wp_negO ?_) | (with_reducible refine wp_maNil ?_) | (with_reducible refine wp_maCons ?_) | (with_reducible refine wp_fl ?_) | (with_reducible refine wp_al ?_) | (with_reducible refine wp_CB ?_) | (with_reducible refine wp_CL ?_) | (with_reducible refine wp_It ?_) | (with_reducible refine wp_ItC ?_) | (with_reducible refine wp_Isi ?_) | (with_reducible refine wp_Rev ?_) | (with_reducible refine wp_poNone ?_) | (with_reducible refine wp_poSome ?_) | (with_reducible refine wp_asI ?_) | (with_reducible refine wp_Sl ?_) | (with_reducible refine wp_SlL ?_) | (with_reducible refine wp_yes ?_) | (with_reducible refine wp_LC ?_) | (with_reducible refine wp_add ?_) | (with_reducible refine wp_sub ?_) | (with_reducible refine wp_cmp ?_) | (with_reducible refine wp_le ?_) | (with_reducible refine wp_ge ?_) | (with_reducible refine wp_eqI ?_) | (with_reducible refine wp_neI ?_) | (with_reducible refine wp_eqS ?_) | (with_reducible refine wp_neS ?_) | (with_reducible refine wp_eqB ?_) | (with_reducible refine wp_neB ?_) | (with_reducible refine wp_slT ?_) | (with_reducible refine wp_slF ?_) | (with_reducible refine wp_slLF ?_) | (with_reducible refine wp_revT ?_) | (with_reducible refine wp_revF ?_) | (with_reducible refine wp_lenT ?_) | (with_reducible refine wp_lenF ?_) | (with_reducible refine wp_max ?_) | (with_reducible refine wp_min ?_) | (with_reducible refine wp_abs ?_) | (with_reducible refine wp_intI ?_) | (with_reducible refine wp_intB ?_) | (with_reducible refine wp_tupT ?_) | (with_reducible refine wp_tupF ?_) | (with_reducible refine wp_lstT ?_) | (with_reducible refine wp_lstF ?_) | (with_reducible refine wp_itT ?_) | (with_reducible refine wp_itF ?_) | (with_reducible refine wp_zipT ?_) | (with_reducible refine wp_zipF ?_) | (with_reducible refine wp_enumF ?_) | (with_reducible refine wp_enumT ?_) | (with_reducible refine wp_cmpS ?_) | (with_reducible refine wp_itS ?_) | (with_reducible refine wp_lsaT ?_) | (with_reducible refine wp_lsaF ?_) | (with_reducible refine wp_AddL ?_) | (with_reducible refine wp_MulL ?_) | (with_reducible refine wp_disp ?_) | (with_reducible refine wp_newD ?_) | (with_reducible refine wp_for ?_) | (with_reducible refine wp_raise ?_) | (with_reducible refine wp_raise1 ?_) | (with_reducible refine wp_try ?_) | (with_reducible refine wp_newX ?_) | (with_reducible refine wp_newX1 ?_) | (with_reducible refine wp_eqNil0 ?_) | (with_reducible refine wp_eqNil1 ?_) | (with_reducible refine wp_isO ?_) | (with_reducible refine wp_isnO ?_) | (with_reducible refine wp_isX ?_) | (with_reducible refine wp_isXn ?_) | (with_reducible refine wp_hdl_0 ?_) | (with_reducible refine wp_FldI ?_) | (with_reducible refine wp_SetF ?_) | (with_reducible refine wp_AugF ?_) | (with_reducible refine wp_Meth ?_) | (with_reducible refine wp_Make ?_) | (with_reducible refine wp_LenI ?_) | (with_reducible refine wq_ifS ?_) | (with_reducible refine wq_and ?_) | (with_reducible refine wq_or ?_) | (with_reducible refine wq_andV ?_) | (with_reducible refine wq_orV ?_) | (with_reducible refine wq_if ?_) | ((with_reducible apply wp_isiK); (first | exact rfl | assumption); (first | exact kb_int_int | exact kb_int_bool | exact kb_int_str | exact kb_int_tuple | exact kb_int_list | exact kb_int_dict | exact kb_bool_int | exact kb_bool_bool | exact kb_bool_str | exact kb_bool_tuple | exact kb_bool_list | exact kb_bool_dict | exact kb_str_int | exact kb_str_bool | exact kb_str_str | exact kb_str_tuple | exact kb_str_list | exact kb_str_dict | exact kb_tuple_int | exact kb_tuple_bool | exact kb_tuple_str | exact kb_tuple_tuple | exact kb_tuple_list | exact kb_tuple_dict | exact kb_list_int | exact kb_list_bool | exact kb_list_str | exact kb_list_tuple | exact kb_list_list | exact kb_list_dict | exact kb_dict_int | exact kb_dict_bool | exact kb_dict_str | exact kb_dict_tuple | exact kb_dict_list | exact kb_dict_dict | exact kb_none_int | exact kb_none_bool | exact kb_none_str | exact kb_none_tuple | exact kb_none_list | exact kb_none_dict)) | (with_reducible refine okB_nT ?_) | (with_reducible refine okB_nF ?_) | (with_reducible refine okB_t ?_) | (with_reducible refine okB_f ?_) | (with_reducible refine okB_nn ?_) | ((with_reducible apply okB_dt); (first | exact rfl | assumption | omega | decide)) | ((with_reducible apply okB_df); (first | exact rfl | assumption | omega | decide)) | ((with_reducible apply okB_nt); (first | exact rfl | assumption | omega | decide)) | ((with_reducible apply okB_nf); (first | exact rfl | assumption | omega | decide)) | (with_reducible refine okB_d (fun hc => ?_) (fun hc => ?_)) | (with_reducible refine okB_n (fun hc => ?_) (fun hc => ?_)) | ((with_reducible apply wp_mod); (first | omega | (simp only [len_add, len_one]; omega) | decide | (simp only [List.length_map, List.length_append, List.length_cons, List.length_nil]; omega) | (simp; done) | (simp <;> omega) | (split <;> omega))) | ((with_reducible apply wp_fdiv); (first | omega | (simp only [len_add, len_one]; omega) | decide | (simp only [List.length_map, List.length_append, List.length_cons, List.length_nil]; omega) | (simp; done) | (simp <;> omega) | (split <;> omega))) | ((with_reducible apply wp_addT); (first | omega | (simp only [len_add, len_one]; omega) | decide | (simp only [List.length_map, List.length_append, List.length_cons, List.length_nil]; omega) | (simp; done) | (simp <;> omega) | (split <;> omega))) | ((with_reducible apply wp_addF); (first | omega | (simp only [len_add, len_one]; omega) | decide | (simp only [List.length_map, List.length_append, List.length_cons, List.length_nil]; omega) | (simp; done) | (simp <;> omega) | (split <;> omega))) | ((with_reducible apply wp_addS); (first | omega | (simp only [len_add, len_one]; omega) | decide | (simp only [List.length_map, List.length_append, List.length_cons, List.length_nil]; omega) | (simp; done) | (simp <;> omega) | (split <;> omega))) | ((with_reducible apply wp_slS); (first | omega | (simp only [len_add, len_one]; omega) | decide | (simp only [List.length_map, List.length_append, List.length_cons, List.length_nil]; omega) | (simp; done) | (simp <;> omega) | (split <;> omega))) | ((with_reducible apply wp_lenS); (first | omega | (simp only [len_add, len_one]; omega) | decide | (simp only [List.length_map, List.length_append, List.length_cons, List.length_nil]; omega) | (simp; done) | (simp <;> omega) | (split <;> omega))) | ((with_reducible apply wp_upper); (first | omega | (simp only [len_add, len_one]; omega) | decide | (simp only [List.length_map, List.length_append, List.length_cons, List.length_nil]; omega) | (simp; done) | (simp <;> omega) | (split <;> omega))) | ((with_reducible apply wp_lsaS); (first | omega | (simp only [len_add, len_one]; omega) | decide | (simp only [List.length_map, List.length_append, List.length_cons, List.length_nil]; omega) | (simp; done) | (simp <;> omega) | (split <;> omega))) | ((with_reducible apply wp_mulT); (first | omega | (simp only [len_add, len_one]; omega) | decide | (simp only [List.length_map, List.length_append, List.length_cons, List.length_nil]; omega) | (simp; done) | (simp <;> omega) | (split <;> omega))) | ((with_reducible apply wp_mulF); (first | omega | (simp only [len_add, len_one]; omega) | decide | (simp only [List.length_map, List.length_append, List.length_cons, List.length_nil]; omega) | (simp; done) | (simp <;> omega) | (split <;> omega))) | ((with_reducible apply wp_rg1); (first | omega | (simp only [len_add, len_one]; omega) | decide | (simp only [List.length_map, List.length_append, List.length_cons, List.length_nil]; omega) | (simp; done) | (simp <;> omega) | (split <;> omega))) | ((with_reducible apply wp_rg2); (first | omega | (simp only [len_add, len_one]; omega) | decide | (simp only [List.length_map, List.length_append, List.length_cons, List.length_nil]; omega) | (simp; done) | (simp <;> omega) | (split <;> omega))) | ((with_reducible apply wp_mulTI); omega; omega; omega) | ((with_reducible apply wp_mulLF); (first | omega | (simp only [len_add, len_one]; omega) | decide | (simp only [List.length_map, List.length_append, List.length_cons, List.length_nil]; omega) | (simp; done) | (simp <;> omega) | (split <;> omega))) | ((with_reducible apply wp_pow); (first | omega | (simp only [len_add, len_one]; omega) | decide | (simp only [List.length_map, List.length_append, List.length_cons, List.length_nil]; omega) | (simp; done) | (simp <;> omega) | (split <;> omega)); try simp only [Int.reduceToNat, Int.reducePow]) | ((with_reducible apply wp_fdivS); omega; omega) | ((with_reducible apply wp_mulR); omega) | ((with_reducible apply wp_mulL); omega) | ((with_reducible apply wp_mulS); omega; omega; omega; omega) | (with_reducible refine wp_tup ?_) | (with_reducible refine wp_lst ?_) | (with_reducible refine wp_call ?_) | (with_reducible refine wp_callK ?_) | ((with_reducible refine And.intro ?_ ?_); ((apply insB_eq); (first | assumption | exact end_get _ _ _); rfl)) | ((with_reducible refine And.intro ?_ ?_); (exact ⟨rfl, rfl, rfl⟩); simp only [permL, List.cons_append, List.nil_append, List.filterMap_cons, List.filterMap_nil, List.getElem?_cons_zero, List.getElem?_cons_succ]) | ((with_reducible refine And.intro ?_ ?_); (first | rfl | decide | (simp; done))) | ((with_reducible apply wp_slR); (first | assumption | exact mid_get _ _ _ | exact loc_get _ _ _ _ _ | exact loc_get2 _ _ _ _ _ _ | exact loc_get3 _ _ _ _ _ _ _ | exact end_get _ _ _ | exact end_get1 _ _ _ _ | exact end_get2 _ _ _ _ _ | (rw [end_getK]; rfl) | (simp [List.getElem?_append] <;> rfl))) | ((with_reducible apply wp_lenR); (first | assumption | exact mid_get _ _ _ | exact loc_get _ _ _ _ _ | exact loc_get2 _ _ _ _ _ _ | exact loc_get3 _ _ _ _ _ _ _ | exact end_get _ _ _ | exact end_get1 _ _ _ _ | exact end_get2 _ _ _ _ _ | (rw [end_getK]; rfl) | (simp [List.getElem?_append] <;> rfl))) | ((with_reducible apply wp_tupR); (first | assumption | exact mid_get _ _ _ | exact loc_get _ _ _ _ _ | exact loc_get2 _ _ _ _ _ _ | exact loc_get3 _ _ _ _ _ _ _ | exact end_get _ _ _ | exact end_get1 _ _ _ _ | exact end_get2 _ _ _ _ _ | (rw [end_getK]; rfl) | (simp [List.getElem?_append] <;> rfl))) | ((with_reducible apply wp_lstR); (first | assumption | exact mid_get _ _ _ | exact loc_get _ _ _ _ _ | exact loc_get2 _ _ _ _ _ _ | exact loc_get3 _ _ _ _ _ _ _ | exact end_get _ _ _ | exact end_get1 _ _ _ _ | exact end_get2 _ _ _ _ _ | (rw [end_getK]; rfl) | (simp [List.getElem?_append] <;> rfl))) | ((with_reducible apply wp_slLR); (first | assumption | exact mid_get _ _ _ | exact loc_get _ _ _ _ _ | exact loc_get2 _ _ _ _ _ _ | exact loc_get3 _ _ _ _ _ _ _ | exact end_get _ _ _ | exact end_get1 _ _ _ _ | exact end_get2 _ _ _ _ _ | (rw [end_getK]; rfl) | (simp [List.getElem?_append] <;> rfl))) | ((with_reducible apply wp_asC); (first | assumption | exact mid_get _ _ _ | exact loc_get _ _ _ _ _ | exact loc_get2 _ _ _ _ _ _ | exact loc_get3 _ _ _ _ _ _ _ | exact end_get _ _ _ | exact end_get1 _ _ _ _ | exact end_get2 _ _ _ _ _ | (rw [end_getK]; rfl) | (simp [List.getElem?_append] <;> rfl))) | ((with_reducible apply wp_fldI); (first | assumption | exact mid_get _ _ _ | exact loc_get _ _ _ _ _ | exact loc_get2 _ _ _ _ _ _ | exact loc_get3 _ _ _ _ _ _ _ | exact end_get _ _ _ | exact end_get1 _ _ _ _ | exact end_get2 _ _ _ _ _ | (rw [end_getK]; rfl) | (simp [List.getElem?_append] <;> rfl)); (first | decide | (simp; done)); rfl) | ((with_reducible apply wp_lenD); (first | assumption | exact mid_get _ _ _ | exact loc_get _ _ _ _ _ | exact loc_get2 _ _ _ _ _ _ | exact loc_get3 _ _ _ _ _ _ _ | exact end_get _ _ _ | exact end_get1 _ _ _ _ | exact end_get2 _ _ _ _ _ | (rw [end_getK]; rfl) | (simp [List.getElem?_append] <;> rfl))) | ((with_reducible apply wp_ixR); (first | assumption | exact mid_get _ _ _ | exact loc_get _ _ _ _ _ | exact loc_get2 _ _ _ _ _ _ | exact loc_get3 _ _ _ _ _ _ _ | exact end_get _ _ _ | exact end_get1 _ _ _ _ | exact end_get2 _ _ _ _ _ | (rw [end_getK]; rfl) | (simp [List.getElem?_append] <;> rfl)); (first | assumption | exact atI_0 | exact atI_1 | exact atI_2 | exact atI_3 | rfl)) | ((with_reducible apply wp_ixF); (first | assumption | exact atI_0 | exact atI_1 | exact atI_2 | exact atI_3 | rfl)) | ((with_reducible apply wp_ixT); (first | assumption | exact atI_0 | exact atI_1 | exact atI_2 | exact atI_3 | rfl)) | ((with_reducible apply wp_set_); (first | assumption | exact mid_get _ _ _ | exact loc_get _ _ _ _ _ | exact loc_get2 _ _ _ _ _ _ | exact loc_get3 _ _ _ _ _ _ _ | exact end_get _ _ _ | exact end_get1 _ _ _ _ | exact end_get2 _ _ _ _ _ | (rw [end_getK]; rfl) | (simp [List.getElem?_append] <;> rfl)); (first | assumption | exact ixN_0 (by simp) | exact ixN_1 (by simp) | exact ixN_2 (by simp))) | ((with_reducible apply wp_app); (first | assumption | exact mid_get _ _ _ | exact loc_get _ _ _ _ _ | exact loc_get2 _ _ _ _ _ _ | exact loc_get3 _ _ _ _ _ _ _ | exact end_get _ _ _ | exact end_get1 _ _ _ _ | exact end_get2 _ _ _ _ _ | (rw [end_getK]; rfl) | (simp [List.getElem?_append] <;> rfl)); (first | omega | (simp only [len_add, len_one]; omega) | decide | (simp only [List.length_map, List.length_append, List.length_cons, List.length_nil]; omega) | (simp; done) | (simp <;> omega) | (split <;> omega))) | ((with_reducible apply wp_addLRF); (first | assumption | exact mid_get _ _ _ | exact loc_get _ _ _ _ _ | exact loc_get2 _ _ _ _ _ _ | exact loc_get3 _ _ _ _ _ _ _ | exact end_get _ _ _ | exact end_get1 _ _ _ _ | exact end_get2 _ _ _ _ _ | (rw [end_getK]; rfl) | (simp [List.getElem?_append] <;> rfl)); (first | omega | (simp only [len_add, len_one]; omega) | decide | (simp only [List.length_map, List.length_append, List.length_cons, List.length_nil]; omega) | (simp; done) | (simp <;> omega) | (split <;> omega))) | ((with_reducible apply wp_addLFF); (first | omega | (simp only [len_add, len_one]; omega) | decide | (simp only [List.length_map, List.length_append, List.length_cons, List.length_nil]; omega) | (simp; done) | (simp <;> omega) | (split <;> omega))) | ((with_reducible apply wp_addLRR); (first | assumption | exact mid_get _ _ _ | exact loc_get _ _ _ _ _ | exact loc_get2 _ _ _ _ _ _ | exact loc_get3 _ _ _ _ _ _ _ | exact end_get _ _ _ | exact end_get1 _ _ _ _ | exact end_get2 _ _ _ _ _ | (rw [end_getK]; rfl) | (simp [List.getElem?_append] <;> rfl)); (first | assumption | exact mid_get _ _ _ | exact loc_get _ _ _ _ _ | exact loc_get2 _ _ _ _ _ _ | exact loc_get3 _ _ _ _ _ _ _ | exact end_get _ _ _ | exact end_get1 _ _ _ _ | exact end_get2 _ _ _ _ _ | (rw [end_getK]; rfl) | (simp [List.getElem?_append] <;> rfl)); (first | omega | (simp only [len_add, len_one]; omega) | decide | (simp only [List.length_map, List.length_append, List.length_cons, List.length_nil]; omega) | (simp; done) | (simp <;> omega) | (split <;> omega))) | (with_reducible refine wp_M1 ?_) | (with_reducible refine wp_M0 ?_) | ((with_reducible refine And.intro ?_ ?_); (with_reducible apply isCell_of); (first | assumption | exact mid_get _ _ _ | exact loc_get _ _ _ _ _ | exact loc_get2 _ _ _ _ _ _ | exact loc_get3 _ _ _ _ _ _ _ | exact end_get _ _ _ | exact end_get1 _ _ _ _ | exact end_get2 _ _ _ _ _ | (rw [end_getK]; rfl) | (simp [List.getElem?_append] <;> rfl))) | ((with_reducible apply pull_wp); assumption; omega; (first | omega | (simp only [len_add, len_one]; omega) | decide | (simp only [List.length_map, List.length_append, List.length_cons, List.length_nil]; omega) | (simp; done) | (simp <;> omega) | (split <;> omega)); (first | omega | (simp only [len_add, len_one]; omega) | decide | (simp only [List.length_map, List.length_append, List.length_cons, List.length_nil]; omega) | (simp; done) | (simp <;> omega) | (split <;> omega)); intro r u' hu' hr0 hr1) | (with_reducible refine wp_asg ?_) | ((with_reducible apply asgT); exact rfl) | ((with_reducible apply wp_in); (first | assumption | exact inB_one | exact inB_int2 | exact inB_intT | exact inB_intF)) | ((with_reducible apply wp_nin); (first | assumption | exact inB_one | exact inB_int2 | exact inB_intT | exact inB_intF)) | ((with_reducible apply wp_hdl_y); (first | decide | (simp; done))) | ((with_reducible apply wp_hdl_yn); (first | decide | (simp; done))) | ((with_reducible apply wp_hdl_n); (first | decide | (simp; done)); (first | decide | (simp; done))) | ((with_reducible apply wp_isXy); (first | assumption | exact mid_get _ _ _ | exact loc_get _ _ _ _ _ | exact loc_get2 _ _ _ _ _ _ | exact loc_get3 _ _ _ _ _ _ _ | exact end_get _ _ _ | exact end_get1 _ _ _ _ | exact end_get2 _ _ _ _ _ | (rw [end_getK]; rfl) | (simp [List.getElem?_append] <;> rfl)); (first | decide | (simp; done))) | ((with_reducible apply wp_isXf); (first | assumption | exact mid_get _ _ _ | exact loc_get _ _ _ _ _ | exact loc_get2 _ _ _ _ _ _ | exact loc_get3 _ _ _ _ _ _ _ | exact end_get _ _ _ | exact end_get1 _ _ _ _ | exact end_get2 _ _ _ _ _ | (rw [end_getK]; rfl) | (simp [List.getElem?_append] <;> rfl)); (first | decide | (simp; done)); (first | decide | (simp; done))) | ((with_reducible apply wp_ne); (first | assumption | exact eqB_intT | exact eqB_intF | (apply eqB_nilR; (first | assumption | exact mid_get _ _ _ | exact loc_get _ _ _ _ _ | exact loc_get2 _ _ _ _ _ _ | exact loc_get3 _ _ _ _ _ _ _ | exact end_get _ _ _ | exact end_get1 _ _ _ _ | exact end_get2 _ _ _ _ _ | (rw [end_getK]; rfl) | (simp [List.getElem?_append] <;> rfl)); (first | exact ints_dat _ _ | assumption | rfl | (simp [datN, datNs]; done))) | (apply eqB_nilF; (first | exact ints_dat _ _ | assumption | rfl | (simp [datN, datNs]; done))) | (apply eqB_nilT; (first | exact ints_dat _ _ | assumption | rfl | (simp [datN, datNs]; done))))) | ((with_reducible apply wp_eq); (first | assumption | exact eqB_intT | exact eqB_intF | (apply eqB_nilR; (first | assumption | exact mid_get _ _ _ | exact loc_get _ _ _ _ _ | exact loc_get2 _ _ _ _ _ _ | exact loc_get3 _ _ _ _ _ _ _ | exact end_get _ _ _ | exact end_get1 _ _ _ _ | exact end_get2 _ _ _ _ _ | (rw [end_getK]; rfl) | (simp [List.getElem?_append] <;> rfl)); (first | exact ints_dat _ _ | assumption | rfl | (simp [datN, datNs]; done))) | (apply eqB_nilF; (first | exact ints_dat _ _ | assumption | rfl | (simp [datN, datNs]; done))) | (apply eqB_nilT; (first | exact ints_dat _ _ | assumption | rfl | (simp [datN, datNs]; done))))) | ((with_reducible refine And.intro ?_ ?_); exact (rfl : isTxt _ (MV.str _) = true)) | (simp only [mid_set, loc_set, loc_set2, loc_set3, end_set, end_set1, end_set2, end_setK, List.set_cons_succ, List.set_cons_zero, List.length_append, List.length_set, List.length_cons, List.length_nil, List.append_assoc, List.cons_append, List.nil_append, Nat.zero_add, Nat.add_zero, cutM_map, ← List.map_append, repl_map, List.length_map, ← List.map_reverse, isNO_non, isNO_int, isNO_bl, isNO_str, isNO_ref, isNO_tup, isNO_fl]) | fail)))
/-- the bag: n draws at most so far -/
def Bg (n : Nat) (u : MO) : Prop := ∃ a b c : Int, u = .lst [.int a, .int b, .int c] ∧ 0 ≤ a ∧ 0 ≤ b ∧ b < 2147483647 ∧ 0 ≤ c ∧ c ≤ n
theorem Bg.mono {n m : Nat} {u : MO} (h : Bg n u) (hm : n ≤ m) : Bg m u := by
  obtain ⟨a, b, c, e, h1, h2, h3, h4, h5⟩ := h
  exact ⟨a, b, c, e, h1, h2, h3, h4, by omega⟩
theorem Bg.lt {n k : Nat} {u : MO} (h : Bg n u) : cellLt k u = true := by
  obtain ⟨a, b, c, rfl, _⟩ := h
  rfl
theorem draw_wp {g t : MH} {u : MO} {n : Nat} {many : Int} {Q : MV → MH → Prop} {E : PE'} (hu : Bg n u) (hn : n < 2 ^ 38) (h0 : 0 < many) (h1 : many < 2 ^ 64)
    (q : ∀ (r : Int) (u' : MO), Bg (n + 1) u' → 0 ≤ r → r < many → Q (.int r) (g ++ u' :: t)) : okR (m_law_draw [.ref g.length, .int many] (g ++ u :: t)) Q E := by
  obtain ⟨a, b, c, rfl, ha, hb, hb2, hc0, hcn⟩ := hu
  unfold m_law_draw b_law_draw
  (refine wp_run ?_; simp only [List.map_cons, List.map_nil, List.reduceReplicate, List.cons_append, List.nil_append, Nat.reduceSub])
  decreasing_tactic
  · exact q _ _ ⟨_, _, _, rfl, Int.ediv_nonneg ha (by omega), hb, hb2, hc0, by omega⟩ (Int.emod_nonneg _ (by omega)) (Int.emod_lt_of_pos _ h0)
  · exact q _ _ ⟨_, _, _, rfl, ha, Int.emod_nonneg _ (by omega), Int.emod_lt_of_pos _ (by omega), by omega, by omega⟩ (Int.emod_nonneg _ (by omega)) (Int.emod_lt_of_pos _ h0)
theorem bag_wp {h : MH} {z k : Int} {Q : MV → MH → Prop} {E : PE'} (hk : 0 ≤ k) (hk2 : k ≤ 100) (q : ∀ u, Bg 100 u → Q (.ref h.length) (h ++ [u])) : okR (m_law_bag [.int z, .int k] h) Q E := by
  have hp : ∃ p : Int, (k + 1) ^ 3 = p ∧ 0 ≤ p ∧ p ≤ 10000000 := by
    refine ⟨_, rfl, Int.pow_nonneg (by omega), ?_⟩
    have e : (k + 1) ^ 3 = (k + 1) * (k + 1) * (k + 1) := by rw [Int.pow_succ, Int.pow_succ, Int.pow_succ, Int.pow_zero, Int.one_mul]
    have e1 : (k + 1) * (k + 1) ≤ 101 * 101 := Int.mul_le_mul (by omega) (by omega) (by omega) (by omega)
    have e2 : (k + 1) * (k + 1) * (k + 1) ≤ 101 * 101 * 101 := Int.mul_le_mul e1 (by omega) (by omega) (by omega)
    omega
  obtain ⟨p, hp, hp0, hp1⟩ := hp
  unfold m_law_bag b_law_bag
  (refine wp_run ?_; simp only [List.map_cons, List.map_nil, List.reduceReplicate, List.cons_append, List.nil_append, Nat.reduceSub])
  decreasing_tactic
  rw [hp]
  decreasing_tactic
  refine q _ ⟨_, _, _, rfl, by omega, Int.emod_nonneg _ (by omega), Int.emod_lt_of_pos _ (by omega), hk, by omega⟩


def hdgMV (p : Int × Int) : MV := .tup [.int p.1, .int p.2]
def NetOk (m : Int) (hs : List (Int × Int)) : Prop := 1 ≤ m ∧ m ≤ 12 ∧ hs.length ≤ 20 ∧ ∀ p ∈ hs, 0 ≤ p.1 ∧ p.1 < p.2 ∧ p.2 < m
theorem net16_wp {g t : MH} {u : MO} {n : Nat} {Q : MV → MH → Prop} {E : PE'} (hu : Bg n u) (hn : n < 2 ^ 37)
    (q : ∀ (m : Int) (hs : List (Int × Int)) (u' : MO), Bg (n + 100) u' → NetOk m hs → Q (.tup [.int m, .tup (hs.map hdgMV)]) (g ++ u' :: t)) : okR (m_law_net_k16 [.ref g.length] (g ++ u :: t)) Q E := by
  unfold m_law_net_k16 b_law_net_k16
  refine wp_drop1 ?_
  (refine wp_run ?_; simp only [List.map_cons, List.map_nil, List.reduceReplicate, List.cons_append, List.nil_append, Nat.reduceSub])
  decreasing_trivial
  refine draw_wp hu (by omega) (by omega) (by omega) fun r0 u0 hu0 h00 h01 => ?_
  decreasing_trivial
  refine draw_wp hu0 (by omega) (by omega) (by omega) fun r1 u1 hu1 h10 h11 => ?_
  decreasing_trivial
  refine okS_cut (fun l h => ∃ (m c : Int) (u2 : MO), l = [some (.ref g.length), some (.int m), some (.int c), none, none, none] ∧ h = g ++ u2 :: t ∧ Bg (n + 3) u2 ∧ 1 ≤ m ∧ m ≤ 12 ∧ 0 ≤ c ∧ c ≤ 20) ?_ ?_
  · decreasing_tactic
    refine draw_wp hu1 (by omega) (by omega) (by omega) fun r2 u2 hu2 h20 h21 => ?_
    decreasing_tactic
    · exact ⟨_, _, u2, rfl, rfl, hu2, by omega, by omega, by omega, by omega⟩
    · exact ⟨_, _, u2, rfl, rfl, hu2, by omega, by omega, by omega, by omega⟩
  rintro l h ⟨m, c, u2, rfl, rfl, hu2, hm1, hm2, hc0, hc1⟩
  decreasing_trivial
  obtain ⟨many, hmany, hy0, hy1, hy2⟩ : ∃ many, c * (if decide (1 < m) = true then 1 else 0) = many ∧ 0 ≤ many ∧ many ≤ 20 ∧ (0 < many → 1 < m) := by
    by_cases hz : 1 < m
    · exact ⟨c, by simp [hz], hc0, hc1, fun _ => hz⟩
    · exact ⟨0, by simp [hz], by omega, by omega, fun z => by omega⟩
  rw [hmany]
  decreasing_trivial
  refine forGo_inv (fun k l h => ∃ (hs : List (Int × Int)) (u3 : MO) (x4 x5 : Option MV), l = [some (.ref g.length), some (.int m), some (.int c), some (.ref (g.length + (t.length + 1))), x4, x5] ∧
      h = g ++ u3 :: (t ++ [.lst (hs.map hdgMV)]) ∧ Bg (n + 3 + 2 * k) u3 ∧ hs.length = k ∧ ∀ p ∈ hs, 0 ≤ p.1 ∧ p.1 < p.2 ∧ p.2 < m) ⟨[], u2, none, none, rfl, rfl, hu2, rfl, by simp⟩ ?_ ?_
  · rintro k x l h hx ⟨hs, u3, x4, x5, rfl, rfl, hu3, hk, hh⟩
    obtain ⟨hk2, rfl⟩ := rgMV_get hx
    have hm3 : 1 < m := hy2 (by omega)
    refine ⟨_, rfl, ?_⟩
    have hlm : (hs.map hdgMV).length = hs.length := List.length_map _
    decreasing_tactic
    refine draw_wp hu3 (by omega) (by omega) (by omega) fun r4 u4 hu4 h40 h41 => ?_
    decreasing_tactic
    refine draw_wp hu4 (by omega) (by omega) (by omega) fun r5 u5 hu5 h50 h51 => ?_
    decreasing_tactic
    refine ⟨hs ++ [(r4, r4 + 1 + r5)], u5, _, _, rfl, by simp [hdgMV], hu5.mono (by omega), by simp; omega, fun p hp => ?_⟩
    rcases List.mem_append.mp hp with z | z
    · exact hh p z
    · simp at z; subst z; exact ⟨by simp; omega, by simp; omega, by simp; omega⟩
  · rintro l h ⟨hs, u3, x4, x5, rfl, rfl, hu3, hk, hh⟩
    rw [rgMV_length] at hk hu3
    have hlm : (hs.map hdgMV).length = hs.length := List.length_map _
    decreasing_tactic
    exact ⟨u3, [.lst (hs.map hdgMV)], rfl, by simp [refsLt, refsLts, hdgMV], hu3.lt, q m hs u3 (hu3.mono (by omega)) ⟨hm1, hm2, by omega, hh⟩⟩


mutual
/-- data, and empty dicts -/
def Th (h : MH) : MV → Prop
  | .tup xs => ThA h xs
  | .ref n => h[n]? = some (.dK [])
  | .glo _ => False
  | _ => True
def ThA (h : MH) : List MV → Prop
  | [] => True
  | x :: xs => Th h x ∧ ThA h xs
end
theorem ThA.mem {h : MH} : ∀ {xs : List MV} {x : MV}, ThA h xs → x ∈ xs → Th h x
  | y :: ys, x, q, m => by
    unfold ThA at q
    rcases List.mem_cons.mp m with e | e
    · subst e; exact q.1
    · exact q.2.mem e
theorem ty_dict {h : MH} {n : Nat} (q : Th h (.ref n)) : tyN h (.ref n) = some "dict" := by
  unfold Th at q; unfold tyN; dsimp only; rw [q]
def isWh : MV → Bool
  | .int _ => true
  | _ => false
theorem isWh_int {x : MV} (h : isWh x = true) : ∃ i, x = .int i := by
  cases x <;> simp [isWh] at h
  exact ⟨_, rfl⟩
theorem is_whole_wp {x : MV} {h : MH} {Q : MV → MH → Prop} {E : PE'} (ht : Th h x) (q : Q (.bl (isWh x)) h) : okR (m_is_whole [x] h) Q E := by
  unfold m_is_whole b_is_whole
  (refine wp_run ?_; simp only [List.map_cons, List.map_nil, List.reduceReplicate, List.cons_append, List.nil_append, Nat.reduceSub])
  cases x with
  | ref n => have := ty_dict ht; decreasing_tactic; exact q
  | glo n => unfold Th at ht; exact ht.elim
  | _ => decreasing_tactic; exact q
theorem okB_bn {A B : Prop} {b : Bool} (h1 : b = false → A) (h2 : b = true → B) : okB (!b) A B := by
  cases b
  · exact okB_t (h1 rfl)
  · exact okB_f (h2 rfl)


def isHedge (g : Int) : MV → Bool
  | .tup [.int a, .int b] => decide (0 ≤ a) && decide (a < b) && decide (b < g)
  | _ => false
theorem isHedge_0 {g : Int} {a b : MV} (h : isWh a = false) : isHedge g (.tup [a, b]) = false := by
  cases a <;> simp [isWh] at h <;> rfl
theorem isHedge_1 {g : Int} {a b : MV} (h : isWh b = false) : isHedge g (.tup [a, b]) = false := by
  cases b <;> simp [isWh] at h <;> (cases a <;> rfl)
theorem isHedge_a {g : Int} {a : MV} : isHedge g (.tup [a]) = false := by cases a <;> rfl
theorem isHedge_b {g : Int} {a b c : MV} {r : List MV} : isHedge g (.tup (a :: b :: c :: r)) = false := by cases a <;> cases b <;> rfl
theorem is_hedge_wp {x : MV} {g : Int} {h : MH} {Q : MV → MH → Prop} {E : PE'} (ht : Th h x) (q : Q (.bl (isHedge g x)) h) : okR (m_is_hedge [.int g, x] h) Q E := by
  unfold m_is_hedge b_is_hedge
  (refine wp_run ?_; simp only [List.map_cons, List.map_nil, List.reduceReplicate, List.cons_append, List.nil_append, Nat.reduceSub])
  cases x with
  | ref n => have := ty_dict ht; decreasing_tactic; exact q
  | glo n => unfold Th at ht; exact ht.elim
  | tup xs =>
    match xs, ht, q with
    | [], ht, q => decreasing_tactic; all_goals first | exact q | (simp at hc; done)
    | [a], ht, q => rw [isHedge_a] at q; decreasing_tactic; all_goals first | exact q | (exfalso; simp at hc; done)
    | a :: b :: c :: r, ht, q => rw [isHedge_b] at q; decreasing_tactic; all_goals first | exact q | (exfalso; simp at hc; omega)
    | [a, b], ht, q =>
      have ha : Th h a := by unfold Th ThA at ht; exact ht.1
      have hb : Th h b := by unfold Th ThA at ht; exact ht.2.mem (by simp)
      decreasing_tactic
      refine is_whole_wp ha ?_
      decreasing_tactic
      refine okB_bn (fun hwa => ?_) (fun hwa => ?_)
      · rw [isHedge_0 hwa] at q
        decreasing_tactic
        exact q
      · obtain ⟨i, rfl⟩ := isWh_int hwa
        decreasing_tactic
        refine is_whole_wp hb ?_
        decreasing_tactic
        refine okB_bn (fun hwb => ?_) (fun hwb => ?_)
        · rw [isHedge_1 hwb] at q
          decreasing_tactic
          exact q
        · obtain ⟨j, rfl⟩ := isWh_int hwb
          decreasing_tactic
          all_goals (revert q; simp [isHedge, *])
  | _ => decreasing_tactic; exact q
def isTup : MV → Bool
  | .tup _ => true
  | _ => false
def isNet : MV → Bool
  | .tup [.int g, .tup hs] => !(decide (g < 1)) && !(decide (12 < g)) && !(decide ((20 : Int) < hs.length)) && hs.all (isHedge g)
  | _ => false
theorem isNet_a {a : MV} : isNet (.tup [a]) = false := by cases a <;> rfl
theorem isNet_b {a b c : MV} {r : List MV} : isNet (.tup (a :: b :: c :: r)) = false := by cases a <;> cases b <;> rfl
theorem isNet_0 {a b : MV} (h : isWh a = false) : isNet (.tup [a, b]) = false := by
  cases a <;> simp [isWh] at h <;> rfl
theorem isNet_1 {a b : MV} (h : isTup b = false) : isNet (.tup [a, b]) = false := by
  cases b <;> simp [isTup] at h <;> (cases a <;> rfl)
theorem isi_tup {x : MV} {h : MH} {Q : MV → MH → Prop} {E : PE'} (ht : Th h x) (q : Q (.bl (isTup x)) h) : okR (isiV "tuple" x h) Q E := by
  cases x with
  | ref n => have := ty_dict ht; decreasing_tactic; exact q
  | glo n => unfold Th at ht; exact ht.elim
  | _ => decreasing_tactic; exact q
theorem is_net_wp {x : MV} {h : MH} {Q : MV → MH → Prop} {E : PE'} (ht : Th h x) (q : Q (.bl (isNet x)) h) : okR (m_is_net [x] h) Q E := by
  unfold m_is_net b_is_net
  (refine wp_run ?_; simp only [List.map_cons, List.map_nil, List.reduceReplicate, List.cons_append, List.nil_append, Nat.reduceSub])
  cases x with
  | ref n => have := ty_dict ht; decreasing_tactic; exact q
  | glo n => unfold Th at ht; exact ht.elim
  | tup xs =>
    match xs, ht, q with
    | [], ht, q => decreasing_tactic; all_goals first | exact q | (simp at hc; done)
    | [a], ht, q => rw [isNet_a] at q; decreasing_tactic; all_goals first | exact q | (exfalso; simp at hc; done)
    | a :: b :: c :: r, ht, q => rw [isNet_b] at q; decreasing_tactic; all_goals first | exact q | (exfalso; simp at hc; omega)
    | [a, b], ht, q =>
      have ha : Th h a := by unfold Th ThA at ht; exact ht.1
      have hb : Th h b := by unfold Th ThA at ht; exact ht.2.mem (by simp)
      decreasing_tactic
      refine is_whole_wp ha ?_
      decreasing_tactic
      refine okB_bn (fun hwa => ?_) (fun hwa => ?_)
      · rw [isNet_0 hwa] at q
        decreasing_tactic
        exact q
      · obtain ⟨i, rfl⟩ := isWh_int hwa
        decreasing_tactic
        refine isi_tup hb ?_
        decreasing_tactic
        refine okB_bn (fun hwb => ?_) (fun hwb => ?_)
        · rw [isNet_1 hwb] at q
          decreasing_tactic
          exact q
        · obtain ⟨hs, rfl⟩ : ∃ hs, b = .tup hs := by cases b <;> simp [isTup] at hwb; exact ⟨_, rfl⟩
          decreasing_tactic
          refine ⟨_, rfl, ?_⟩
          have hs' : ThA h hs := by unfold Th at hb; exact hb
          decreasing_tactic
          · revert q; simp [isNet, *]
          · revert q; simp [isNet, *]
          · revert q; simp [isNet, *]
          · refine wp_lcL0 (f := fun y => .bl (isHedge i y)) (fun y hy => rfl) ?_ ?_ ?_
            · intro y hy
              decreasing_tactic
              refine is_hedge_wp (hs'.mem hy) ⟨rfl, rfl⟩
            · omega
            · decreasing_tactic
              refine wp_allF (blsOf_map _ _) ?_
              rw [List.all_map]
              revert q
              simp [isNet, *]
  | _ => decreasing_tactic; exact q


/-! what stands of a world -/
def wFs (net r c t k b : MV) : List (Str × MV) := [("net_kept", net), ("rules_kept", r), ("cuts_kept", c), ("things_kept", t), ("next_kept", k), ("books", b)]
def bFs (a s n : MV) : List (Str × MV) := [("by_number", a), ("by_seen", s), ("next_number", n)]
theorem get_app {h t : MH} {i : Nat} {o : MO} (e : h[i]? = some o) : (h ++ t)[i]? = some o := by
  rw [List.getElem?_append_left (List.getElem?_eq_some_iff.mp e).1]; exact e
theorem get_set_ne {h : MH} {i n : Nat} {o u : MO} (e : h[i]? = some o) (hn : n ≠ i) : (h.set n u)[i]? = some o := by rw [List.getElem?_set_ne hn]; exact e
theorem get_set_eq {h : MH} {n : Nat} {o u : MO} (e : h[n]? = some o) : (h.set n u)[n]? = some u := List.getElem?_set_self (List.getElem?_eq_some_iff.mp e).1
theorem get_end {h : MH} {o : MO} : (h ++ [o])[h.length]? = some o := by simp
theorem get_lt {h : MH} {i : Nat} {o : MO} (e : h[i]? = some o) : i < h.length := (List.getElem?_eq_some_iff.mp e).1
/-- what stood stays, but what p names -/
structure Kept (p : Nat → Prop) (h h' : MH) : Prop where
  len : h.length ≤ h'.length
  get : ∀ i o, h[i]? = some o → ¬ p i → h'[i]? = some o
theorem Kept.refl {p : Nat → Prop} {h : MH} : Kept p h h := ⟨Nat.le_refl _, fun _ _ e _ => e⟩
theorem Kept.trans {p : Nat → Prop} {h h1 h2 : MH} (a : Kept p h h1) (b : Kept p h1 h2) : Kept p h h2 := ⟨Nat.le_trans a.len b.len, fun i o e n => b.get i o (a.get i o e n) n⟩
theorem Kept.mono {p q : Nat → Prop} {h h' : MH} (a : Kept p h h') (m : ∀ i, i < h.length → p i → q i) : Kept q h h' := ⟨a.len, fun i o e n => a.get i o e fun z => n (m i (get_lt e) z)⟩
theorem Kept.trans' {p q : Nat → Prop} {h h1 h2 : MH} (a : Kept p h h1) (b : Kept q h1 h2) (m : ∀ i, i < h.length → ¬ q i) : Kept p h h2 := ⟨Nat.le_trans a.len b.len, fun i o e n => b.get i o (a.get i o e n) (m i (get_lt e))⟩
theorem Kept.app {p : Nat → Prop} {h t : MH} : Kept p h (h ++ t) := ⟨by simp, fun _ _ e _ => get_app e⟩
theorem Kept.set1 {h : MH} {n : Nat} {o : MO} : Kept (fun i => i = n) h (h.set n o) := ⟨by simp, fun i _ e z => get_set_ne e fun q => z q.symm⟩
theorem Kept.set {p : Nat → Prop} {h : MH} {n : Nat} {o : MO} (hn : p n) : Kept p h (h.set n o) := ⟨by simp, fun i _ e z => get_set_ne e fun q => z (q ▸ hn)⟩
theorem setI_to {h : MH} {f c : Str} {cs : List Str} {n : Nat} {fs fs' : List (Str × MV)} {y : MV} (e : h[n]? = some (.ins c fs)) (hc : c ∈ cs) (hl : Nat.ble (fs.length + 1) 1000 = true) (ep : putFM f y fs = fs') : setI f cs (.ref n) y h = some (h.set n (.ins c fs')) := by rw [setI_eq e hc (Nat.le_of_ble_eq_true hl), ep]
/-- a book -/
structure Bk (h : MH) (b d s : Nat) (byn : List (Key × MV)) (nn : Int) : Prop where
  b : h[b]? = some (.ins "Book" (bFs (.ref d) (.ref s) (.int nn)))
  d : h[d]? = some (.dK byn)
theorem Bk.kept {p : Nat → Prop} {h h' : MH} {b d s : Nat} {byn : List (Key × MV)} {nn : Int} (B : Bk h b d s byn nn) (k : Kept p h h') (h1 : ¬ p b) (h2 : ¬ p d) : Bk h' b d s byn nn := ⟨k.get _ _ B.b h1, k.get _ _ B.d h2⟩
theorem book_init_wp {h : MH} {n : Nat} {Q : MV → MH → Prop} {E : PE'} (hn : h[n]? = some (.ins "Book" []))
    (q : ∀ h', Kept (fun i => i = n) h h' → Bk h' n h.length (h.length + 1) [] 0 → Q .non h') : okR (m_Book___init__ [.ref n] h) Q E := by
  have hlt := get_lt hn
  unfold m_Book___init__ b_Book___init__
  (refine wp_run ?_; simp only [List.map_cons, List.map_nil, List.reduceReplicate, List.cons_append, List.nil_append, Nat.reduceSub])
  decreasing_tactic
  refine ⟨_, setI_to (get_app hn) (by decide) rfl rfl, ?_⟩
  decreasing_tactic
  refine ⟨_, setI_to (get_app (get_set_eq (get_app hn))) (by decide) rfl rfl, ?_⟩
  decreasing_tactic
  refine ⟨_, setI_to (get_set_eq (get_app (get_set_eq (get_app hn)))) (by decide) rfl rfl, ?_⟩
  have K : ∀ (t : MH) (o o' : MO), Kept (fun i => i = n) h (((h ++ [MO.dK []]).set n o ++ [MO.dK []]).set n o') := fun t o o' => ((Kept.app.trans Kept.set1).trans Kept.app).trans Kept.set1
  refine q _ ((K [] _ _).trans Kept.set1) ⟨?_, ?_⟩
  · exact get_set_eq (get_set_eq (get_app (get_set_eq (get_app hn))))
  · exact get_set_ne (get_set_ne (get_app (get_set_ne get_end (by omega))) (by omega)) (by omega)
/-- a world -/
structure Wd1 (h : MH) (w : Nat) (net : MV) (rr cc tt : Nat) (rules : List MV) (cuts : List Bool) (things : List (Key × MV)) (nx : Int) (bs : List Nat) : Prop where
  w : h[w]? = some (.ins "World" (wFs net (.ref rr) (.ref cc) (.ref tt) (.int nx) (.fl (bs.map .ref))))
  r : h[rr]? = some (.lst rules)
  c : h[cc]? = some (.lst (cuts.map .bl))
  t : h[tt]? = some (.dK things)
theorem Wd1.kept {p : Nat → Prop} {h h' : MH} {w : Nat} {net : MV} {rr cc tt : Nat} {rules : List MV} {cuts : List Bool} {things : List (Key × MV)} {nx : Int} {bs : List Nat} (B : Wd1 h w net rr cc tt rules cuts things nx bs) (k : Kept p h h') (h1 : ¬ p w) (h2 : ¬ p rr) (h3 : ¬ p cc) (h4 : ¬ p tt) : Wd1 h' w net rr cc tt rules cuts things nx bs :=
  ⟨k.get _ _ B.w h1, k.get _ _ B.r h2, k.get _ _ B.c h3, k.get _ _ B.t h4⟩
theorem Th.app {h t : MH} : ∀ {x : MV}, Th h x → Th (h ++ t) x
  | .tup xs, q => by unfold Th at *; exact ThA.app q
  | .ref n, q => by unfold Th at *; exact get_app q
  | .glo _, q => by unfold Th at q; exact q.elim
  | .non, _ => by unfold Th; trivial
  | .bl _, _ => by unfold Th; trivial
  | .int _, _ => by unfold Th; trivial
  | .str _, _ => by unfold Th; trivial
  | .fl _, _ => by unfold Th; trivial
where
  ThA.app {h t : MH} : ∀ {xs : List MV}, ThA h xs → ThA (h ++ t) xs
    | [], _ => by unfold ThA; trivial
    | x :: xs, q => by unfold ThA at *; exact ⟨Th.app q.1, ThA.app q.2⟩
def ruleV : MV := .tup [.tup [.str "look", .str "put", .str "call"], .tup []]
theorem isNet_get {x : MV} (h : isNet x = true) : ∃ (g : Int) (hs : List MV), x = .tup [.int g, .tup hs] ∧ 1 ≤ g ∧ g ≤ 12 ∧ hs.length ≤ 20 ∧ ∀ y ∈ hs, isHedge g y = true := by
  unfold isNet at h
  split at h
  · simp only [Bool.and_eq_true, Bool.not_eq_true', decide_eq_false_iff_not, List.all_eq_true] at h
    obtain ⟨⟨⟨h1, h2⟩, h3⟩, h4⟩ := h
    exact ⟨_, _, rfl, by omega, by omega, by omega, h4⟩
  · cases h
theorem map_const {α : Type} (x : MV) : ∀ hs : List α, hs.map (fun _ => x) = List.replicate hs.length x
  | [] => rfl
  | _ :: hs => by rw [List.map_cons, map_const x hs]; rfl
/-- World(net) -/
theorem world_init_wp {h : MH} {n : Nat} {g : Int} {hs : List MV} {Q : MV → MH → Prop} {E : PE'} (hn : h[n]? = some (.ins "World" [])) (ht : Th h (.tup [.int g, .tup hs])) (hnet : isNet (.tup [.int g, .tup hs]) = true)
    (q : ∀ h' bs, Kept (fun i => i = n) h h' → Wd1 h' n (.tup [.int g, .tup hs]) h.length (h.length + 1) (h.length + 2) (List.replicate hs.length ruleV) (List.replicate hs.length false) [] 0 bs → (bs.length : Int) = g → (∀ b ∈ bs, h.length + 3 ≤ b ∧ ∃ d s, h.length + 3 ≤ d ∧ Bk h' b d s [] 0) → Q .non h') :
    okR (m_World___init__ [.ref n, .tup [.int g, .tup hs]] h) Q E := by
  obtain ⟨g', hs', e0, hg1, hg2, hl, hh⟩ := isNet_get hnet
  cases e0
  have hlt := get_lt hn
  unfold m_World___init__ b_World___init__
  (refine wp_run ?_; simp only [List.map_cons, List.map_nil, List.reduceReplicate, List.cons_append, List.nil_append, Nat.reduceSub])
  decreasing_tactic
  refine is_net_wp ht ?_
  rw [hnet]
  decreasing_tactic
  refine ⟨_, setI_to hn (by decide) rfl rfl, ?_⟩
  decreasing_tactic
  refine wp_lcL0 (f := fun _ => ruleV) (L := fun y => [some (.ref n), some (.tup [.int g, .tup hs]), some y, none]) (fun y hy => rfl) ?_ (by omega) ?_
  · intro y hy
    decreasing_tactic
  decreasing_tactic
  refine ⟨_, setI_to (get_app (get_set_eq hn)) (by decide) rfl rfl, ?_⟩
  decreasing_tactic
  refine wp_lcL0 (f := fun _ => .bl false) (L := fun y => [some (.ref n), some (.tup [.int g, .tup hs]), some y, none]) (fun y hy => rfl) ?_ (by omega) ?_
  · intro y hy
    decreasing_tactic
  decreasing_tactic
  refine ⟨_, setI_to (get_app (get_set_eq (get_app (get_set_eq hn)))) (by decide) rfl rfl, ?_⟩
  decreasing_tactic
  refine ⟨_, setI_to (get_app (get_set_eq (get_app (get_set_eq (get_app (get_set_eq hn)))))) (by decide) rfl rfl, ?_⟩
  decreasing_tactic
  refine ⟨_, setI_to (get_set_eq (get_app (get_set_eq (get_app (get_set_eq (get_app (get_set_eq hn))))))) (by decide) rfl rfl, ?_⟩
  decreasing_tactic
  refine wp_lcI (fun k acc H => ∃ bs : List Nat, acc = bs.map .ref ∧ bs.length = k ∧ h.length + 3 ≤ H.length ∧ Kept (fun i => i = n) h H ∧ H[n]? = some (.ins "World" [("net_kept", .tup [.int g, .tup hs]), ("rules_kept", .ref h.length), ("cuts_kept", .ref (h.length + 1)), ("things_kept", .ref (h.length + 2)), ("next_kept", .int 0)]) ∧
    H[h.length]? = some (.lst (hs.map fun _ => ruleV)) ∧ H[h.length + 1]? = some (.lst (hs.map fun _ => .bl false)) ∧ H[h.length + 2]? = some (.dK []) ∧ ∀ b ∈ bs, h.length + 3 ≤ b ∧ ∃ d s, h.length + 3 ≤ d ∧ Bk H b d s [] 0) ?_ ?_ ?_
  · refine ⟨[], rfl, rfl, by simp, ?_, ?_, ?_, ?_, ?_, fun b hb => by cases hb⟩
    · exact (((((Kept.set1.trans Kept.app).trans Kept.set1).trans Kept.app).trans Kept.set1).trans Kept.app).trans (Kept.set1.trans Kept.set1)
    · exact get_set_eq (get_set_eq (get_app (get_set_eq (get_app (get_set_eq (get_app (get_set_eq hn)))))))
    · refine get_set_ne (get_set_ne (get_app (get_set_ne (get_app (get_set_ne ?_ (by omega))) (by omega))) (by omega)) (by omega)
      have := get_end (h := h.set n (MO.ins "World" (putFM "net_kept" (MV.tup [MV.int g, MV.tup hs]) []))) (o := MO.lst (hs.map fun _ => ruleV))
      rwa [List.length_set] at this
    · refine get_set_ne (get_set_ne (get_app (get_set_ne ?_ (by omega))) (by omega)) (by omega)
      rw [List.getElem?_append_right (by simp)]; simp
    · refine get_set_ne (get_set_ne ?_ (by omega)) (by omega)
      rw [List.getElem?_append_right (by simp)]; simp
  · rintro k x acc H hx ⟨bs, rfl, hk, hz, kp, e1, e2, e3, e4, hb⟩
    refine ⟨_, rfl, ?_⟩
    decreasing_tactic
    refine book_init_wp get_end fun H' kp' bk' => ?_
    have kp2 : Kept (fun i => i = H.length) H H' := Kept.app.trans kp'
    have hkk : k < 12 := by
      have := (rgMV_get hx).1
      omega
    refine ⟨rfl, by rw [hk]; omega, bs ++ [H.length], by rw [List.map_append]; rfl, by rw [List.length_append, hk]; rfl, Nat.le_trans hz kp2.len, ?_, ?_, ?_, ?_, ?_, fun b hb' => ?_⟩
    · exact kp.trans (kp2.mono fun i hi e => by omega)
    · exact kp2.get _ _ e1 (by have := get_lt e1; omega)
    · exact kp2.get _ _ e2 (by have := get_lt e2; omega)
    · exact kp2.get _ _ e3 (by have := get_lt e3; omega)
    · exact kp2.get _ _ e4 (by have := get_lt e4; omega)
    · rcases List.mem_append.mp hb' with hb' | hb'
      · obtain ⟨h1, d, s, h2, h3⟩ := hb b hb'
        exact ⟨h1, d, s, h2, h3.kept kp2 (by have := get_lt h3.b; omega) (by have := get_lt h3.d; omega)⟩
      · rw [List.mem_singleton] at hb'
        subst hb'
        exact ⟨hz, _, _, by simp; omega, bk'⟩
  · rintro acc H ⟨bs, rfl, hk, hz, kp, e1, e2, e3, e4, hb⟩
    decreasing_tactic
    refine ⟨_, setI_to e1 (by decide) rfl rfl, ?_⟩
    have kp2 : Kept (fun i => i = n) H (H.set n (.ins "World" (wFs (.tup [.int g, .tup hs]) (.ref h.length) (.ref (h.length + 1)) (.ref (h.length + 2)) (.int 0) (.fl (bs.map .ref))))) := Kept.set1
    refine q _ bs (kp.trans kp2) ⟨get_set_eq e1, ?_, ?_, ?_⟩ ?_ fun b hb' => ?_
    · rw [map_const] at e2; exact kp2.get _ _ e2 (by omega)
    · rw [map_const] at e3; rw [List.map_replicate]; exact kp2.get _ _ e3 (by omega)
    · exact kp2.get _ _ e4 (by omega)
    · rw [hk, rgMV_length]; omega
    · obtain ⟨h1, d, s, h2, h3⟩ := hb b hb'
      exact ⟨h1, d, s, h2, h3.kept kp2 (by omega) (by omega)⟩
theorem world_init_bad {h : MH} {n : Nat} {x : MV} {Q : MV → MH → Prop} {E : PE'} (ht : Th h x) (hnet : isNet x = false) (q : E "NoNet" [] h) : okR (m_World___init__ [.ref n, x] h) Q E := by
  unfold m_World___init__ b_World___init__
  (refine wp_run ?_; simp only [List.map_cons, List.map_nil, List.reduceReplicate, List.cons_append, List.nil_append, Nat.reduceSub])
  decreasing_tactic
  refine is_net_wp ht ?_
  rw [hnet]
  decreasing_tactic
  exact q


section
variable {h : MH} {w : Nat} {net : MV} {rr cc tt : Nat} {rules : List MV} {cuts : List Bool} {things : List (Key × MV)} {nx : Int} {bs : List Nat} {Q : MV → MH → Prop} {E : PE'}
theorem hedge_known_wp {i : Int} (B : Wd1 h w net rr cc tt rules cuts things nx bs) (q1 : 0 ≤ i → i < cuts.length → Q .non h) (q2 : i < 0 ∨ cuts.length ≤ i → E "NoHedge" [] h) : okR (m_World_hedge_known [.ref w, .int i] h) Q E := by
  obtain ⟨hw, hr, hc', ht⟩ := B
  unfold m_World_hedge_known b_World_hedge_known
  (refine wp_run ?_; simp only [List.map_cons, List.map_nil, List.reduceReplicate, List.cons_append, List.nil_append, Nat.reduceSub])
  decreasing_tactic
  · exact q2 (.inl (by omega))
  · rw [List.length_map] at hc; exact q2 (.inr (by omega))
  · rw [List.length_map] at hc; exact q1 (by omega) (by omega)
theorem is_cut_wp {i : Int} (B : Wd1 h w net rr cc tt rules cuts things nx bs) (q1 : 0 ≤ i → i < cuts.length → ∀ b, cuts[i.toNat]? = some b → Q (.bl b) h) (q2 : i < 0 ∨ cuts.length ≤ i → E "NoHedge" [] h) : okR (m_World_is_cut [.ref w, .int i] h) Q E := by
  have hw := B.w
  have hc' := B.c
  unfold m_World_is_cut b_World_is_cut
  (refine wp_run ?_; simp only [List.map_cons, List.map_nil, List.reduceReplicate, List.cons_append, List.nil_append, Nat.reduceSub])
  decreasing_tactic
  refine hedge_known_wp B (fun h0 h1 => ?_) q2
  decreasing_tactic
  obtain ⟨b, hb⟩ : ∃ b, cuts[i.toNat]? = some b := ⟨_, List.getElem?_eq_getElem (by omega)⟩
  refine wp_ixR hc' (v := .bl b) (by rw [atI_pos h0, List.getElem?_map, hb]; rfl) ?_
  exact q1 h0 h1 b hb
theorem rule_of_wp {i : Int} (B : Wd1 h w net rr cc tt rules cuts things nx bs) (hl : rules.length = cuts.length) (q1 : 0 ≤ i → i < cuts.length → ∀ b, rules[i.toNat]? = some b → Q b h) (q2 : i < 0 ∨ cuts.length ≤ i → E "NoHedge" [] h) : okR (m_World_rule_of [.ref w, .int i] h) Q E := by
  have hw := B.w
  have hr := B.r
  unfold m_World_rule_of b_World_rule_of
  (refine wp_run ?_; simp only [List.map_cons, List.map_nil, List.reduceReplicate, List.cons_append, List.nil_append, Nat.reduceSub])
  decreasing_tactic
  refine hedge_known_wp B (fun h0 h1 => ?_) q2
  decreasing_tactic
  obtain ⟨b, hb⟩ : ∃ b, rules[i.toNat]? = some b := ⟨_, List.getElem?_eq_getElem (by omega)⟩
  refine wp_ixR hr (v := b) (by rw [atI_pos h0, hb]) ?_
  exact q1 h0 h1 b hb
theorem book_of_wp {i : Int} (B : Wd1 h w net rr cc tt rules cuts things nx bs) (q1 : 0 ≤ i → i < bs.length → ∀ b, bs[i.toNat]? = some b → Q (.ref b) h) (q2 : i < 0 ∨ bs.length ≤ i → E "NoGarden" [] h) : okR (m_World_book_of [.ref w, .int i] h) Q E := by
  have hw := B.w
  unfold m_World_book_of b_World_book_of
  (refine wp_run ?_; simp only [List.map_cons, List.map_nil, List.reduceReplicate, List.cons_append, List.nil_append, Nat.reduceSub])
  decreasing_tactic
  · exact q2 (.inl (by omega))
  · rw [List.length_map] at hc; exact q2 (.inr (by omega))
  · rw [List.length_map] at hc
    have h0 : 0 ≤ i := by omega
    have h1 : i < bs.length := by omega
    obtain ⟨b, hb⟩ : ∃ b, bs[i.toNat]? = some b := ⟨_, List.getElem?_eq_getElem (by omega)⟩
    refine wp_ixF (v := .ref b) (by rw [atI_pos h0, List.getElem?_map, hb]; rfl) ?_
    exact q1 h0 h1 b hb
theorem handles_wp {i : Int} (B : Wd1 h w net rr cc tt rules cuts things nx bs) (q1 : 0 ≤ i → i < bs.length → ∀ b, bs[i.toNat]? = some b → ∃ d s byn nn ns, Bk h b d s byn nn ∧ byn.map (·.1) = ns.map Sum.inl ∧ ns.length < 64 ∧ Q (.fl ((sortI ns).map .int)) h) (q2 : i < 0 ∨ bs.length ≤ i → E "NoGarden" [] h) : okR (m_World_handles [.ref w, .int i] h) Q E := by
  have hw := B.w
  unfold m_World_handles b_World_handles
  (refine wp_run ?_; simp only [List.map_cons, List.map_nil, List.reduceReplicate, List.cons_append, List.nil_append, Nat.reduceSub])
  decreasing_tactic
  refine book_of_wp B (fun h0 h1 b hb => ?_) q2
  obtain ⟨d, s, byn, nn, ns, ⟨k1, k2⟩, e, hl, q⟩ := q1 h0 h1 b hb
  decreasing_tactic
  refine wp_sortDI (ns := ns) (by rw [keysD_dK k2, e]) hl ?_
  decreasing_tactic
  exact q
theorem many_handles_wp {i : Int} (B : Wd1 h w net rr cc tt rules cuts things nx bs) (q1 : 0 ≤ i → i < bs.length → ∀ b, bs[i.toNat]? = some b → ∃ d s byn nn, Bk h b d s byn nn ∧ Q (.int byn.length) h) (q2 : i < 0 ∨ bs.length ≤ i → E "NoGarden" [] h) : okR (m_World_many_handles [.ref w, .int i] h) Q E := by
  have hw := B.w
  unfold m_World_many_handles b_World_many_handles
  (refine wp_run ?_; simp only [List.map_cons, List.map_nil, List.reduceReplicate, List.cons_append, List.nil_append, Nat.reduceSub])
  decreasing_tactic
  refine book_of_wp B (fun h0 h1 b hb => ?_) q2
  obtain ⟨d, s, byn, nn, ⟨k1, k2⟩, q⟩ := q1 h0 h1 b hb
  decreasing_tactic
  exact q
theorem wlen_wp (B : Wd1 h w net rr cc tt rules cuts things nx bs) (q : Q (.int things.length) h) : okR (m_World___len__ [.ref w] h) Q E := by
  obtain ⟨hw, hr, hc', ht⟩ := B
  unfold m_World___len__ b_World___len__
  (refine wp_run ?_; simp only [List.map_cons, List.map_nil, List.reduceReplicate, List.cons_append, List.nil_append, Nat.reduceSub])
  decreasing_tactic
  exact q
theorem next_thing_wp (B : Wd1 h w net rr cc tt rules cuts things nx bs) (q : Q (.int nx) h) : okR (m_World_next_thing [.ref w] h) Q E := by
  obtain ⟨hw, hr, hc', ht⟩ := B
  unfold m_World_next_thing b_World_next_thing
  (refine wp_run ?_; simp only [List.map_cons, List.map_nil, List.reduceReplicate, List.cons_append, List.nil_append, Nat.reduceSub])
  decreasing_tactic
  exact q
theorem net_of_wp (B : Wd1 h w net rr cc tt rules cuts things nx bs) (q : Q net h) : okR (m_World_net_of [.ref w] h) Q E := by
  obtain ⟨hw, hr, hc', ht⟩ := B
  unfold m_World_net_of b_World_net_of
  (refine wp_run ?_; simp only [List.map_cons, List.map_nil, List.reduceReplicate, List.cons_append, List.nil_append, Nat.reduceSub])
  decreasing_tactic
  exact q
theorem things_wp {ns : List Int} (B : Wd1 h w net rr cc tt rules cuts things nx bs) (e : things.map (·.1) = ns.map Sum.inl) (hl : ns.length < 64) (q : Q (.fl ((sortI ns).map .int)) h) : okR (m_World_things [.ref w] h) Q E := by
  obtain ⟨hw, hr, hc', ht⟩ := B
  unfold m_World_things b_World_things
  (refine wp_run ?_; simp only [List.map_cons, List.map_nil, List.reduceReplicate, List.cons_append, List.nil_append, Nat.reduceSub])
  decreasing_tactic
  refine wp_sortDI (ns := ns) (by rw [keysD_dK ht, e]) hl ?_
  decreasing_tactic
  exact q
end


theorem ThA_all {h : MH} : ∀ {xs : List MV}, (∀ x ∈ xs, Th h x) → ThA h xs
  | [], _ => by unfold ThA; trivial
  | x :: xs, q => by unfold ThA; exact ⟨q x (by simp), ThA_all fun y hy => q y (by simp [hy])⟩
theorem Th.tup' {h : MH} {xs : List MV} (q : ∀ x ∈ xs, Th h x) : Th h (.tup xs) := by unfold Th; exact ThA_all q
theorem Th.int' {h : MH} {i : Int} : Th h (.int i) := by unfold Th; trivial
theorem Th.hdg {h : MH} (p : Int × Int) : Th h (hdgMV p) := .tup' fun x hx => by
  simp only [List.mem_cons, List.not_mem_nil, or_false] at hx
  rcases hx with rfl | rfl <;> exact .int'
theorem hdgs_th {h : MH} {hs : List (Int × Int)} : ∀ x ∈ hs.map hdgMV, Th h x := fun x hx => by
  obtain ⟨p, _, rfl⟩ := List.mem_map.mp hx
  exact .hdg p
theorem cutM_mem16 {α : Type} {xs : List α} {lo hi : Option Int} {x : α} (h : x ∈ cutM xs lo hi) : x ∈ xs := by
  unfold cutM at h
  exact List.mem_of_mem_drop (List.mem_of_mem_take h)
theorem sp16_wp {g t : MH} {u : MO} {n : Nat} {m : Int} {hs : List (Int × Int)} {Q : MV → MH → Prop} {E : PE'} (hu : Bg n u) (hn : n < 2 ^ 37) (hk : NetOk m hs)
    (q : ∀ (x : MV) (u' : MO) (s : MH), Bg (n + 100) u' → Th (g ++ u' :: (t ++ s)) x → Q x (g ++ u' :: (t ++ s))) : okR (m_law_spoilt_k16 [.ref g.length, .tup [.int m, .tup (hs.map hdgMV)]] (g ++ u :: t)) Q E := by
  obtain ⟨hm1, hm2, hhl, hh⟩ := hk
  have q0 : ∀ (x : MV) (u' : MO), Bg (n + 100) u' → Th (g ++ u' :: t) x → Q x (g ++ u' :: t) := fun x u' h1 h2 => by
    have := q x u' [] h1
    rw [List.append_nil] at this
    exact this h2
  have hlm : (hs.map hdgMV).length = hs.length := List.length_map _
  unfold m_law_spoilt_k16 b_law_spoilt_k16
  (refine wp_run ?_; simp only [List.map_cons, List.map_nil, List.reduceReplicate, List.cons_append, List.nil_append, Nat.reduceSub])
  decreasing_trivial
  refine ⟨_, rfl, ?_⟩
  decreasing_trivial
  refine draw_wp hu (by omega) (by omega) (by omega) fun w uw huw hw0 hw1 => ?_
  decreasing_trivial
  refine draw_wp huw (by omega) (by omega) (by omega) fun r1 u1 hu1 h10 h11 => ?_
  refine wp_ixFp (fun v => ∀ h : MH, Th h v) ?_ h10 (by simpa using h11) fun odd hodd => ?_
  · intro v hv h
    simp only [List.mem_cons, List.not_mem_nil, or_false] at hv
    rcases hv with rfl | rfl | rfl | rfl | rfl | rfl | rfl | rfl <;> simp [Th, ThA]
  have tp2 : ∀ {h : MH} {a b : MV}, Th h a → Th h b → Th h (.tup [a, b]) := fun ha hb => .tup' fun x hx => by
    simp only [List.mem_cons, List.not_mem_nil, or_false] at hx
    rcases hx with rfl | rfl <;> assumption
  have net : ∀ {h : MH}, Th h (.tup [.int m, .tup (hs.map hdgMV)]) := tp2 .int' (.tup' hdgs_th)
  have h01 : ∀ {h : MH}, Th h (.tup [.int 0, .int 1]) := tp2 .int' .int'
  decreasing_trivial
  refine wq_ifS ?_
  decreasing_trivial
  · exact q0 _ _ (hu1.mono (by omega)) net
  refine wq_ifS ?_
  decreasing_trivial
  · exact q0 _ _ (hu1.mono (by omega)) (tp2 (hodd _) (.tup' hdgs_th))
  refine wq_ifS ?_
  decreasing_trivial
  · exact q0 _ _ (hu1.mono (by omega)) (tp2 .int' (by simp [Th]))
  refine wq_ifS ?_
  decreasing_trivial
  · refine q0 _ _ (hu1.mono (by omega)) (tp2 .int' (.tup' fun x hx => ?_))
    rcases List.mem_append.mp hx with z | z
    · exact hdgs_th x z
    · obtain ⟨l, hl, hx⟩ := List.mem_flatten.mp z
      rw [List.eq_of_mem_replicate hl, List.mem_singleton] at hx
      rw [hx]; exact h01
  refine wq_ifS ?_
  decreasing_trivial
  · refine draw_wp hu1 (by omega) (by omega) (by omega) fun r2 u2 hu2 h20 h21 => ?_
    refine wp_ixFp (fun v => Th (g ++ u2 :: (t ++ [.dK []])) v) ?_ h20 (by simpa using h21) fun v hv => ?_
    · intro v hv
      simp only [List.mem_cons, List.not_mem_nil, or_false] at hv
      rcases hv with rfl | rfl | rfl | rfl | rfl | rfl | rfl | rfl | rfl
      · simp [Th]
      · exact .int'
      · exact .tup' hdgs_th
      · simp [Th]
      · simp [Th, ThA]
      · simp [Th, ThA]
      · exact .tup' fun x hx => by
          simp only [List.mem_cons, List.not_mem_nil, or_false] at hx
          rcases hx with rfl | rfl | rfl
          · exact .int'
          · exact .tup' hdgs_th
          · simp [Th, ThA]
      · simp [Th]
      · unfold Th
        exact loc_get _ _ _ _ _
    exact q v u2 [.dK []] (hu2.mono (by omega)) hv
  have hd : datNs 63 (hs.map hdgMV) = true := datNs_iff.mpr fun x hx => by
    obtain ⟨p, _, rfl⟩ := List.mem_map.mp hx
    rfl
  decreasing_trivial
  refine okS_cut (fun l h => ∃ (a b : Int) (u2 : MO), l = [some (.ref g.length), some (.tup [.int m, .tup (hs.map hdgMV)]), some (.int w), some odd, some (.tup [.int a, .int b]), none, some (.int m), some (.tup (hs.map hdgMV))] ∧ h = g ++ u2 :: t ∧ Bg (n + 3) u2) ?_ ?_
  · refine wq_ifS ?_
    decreasing_tactic
    · have h0 : 0 < hs.length := by
        omega
      refine draw_wp hu1 (by omega) (by omega) (by omega) fun r2 u2 hu2 h20 h21 => ?_
      refine wp_ixTp (fun v => ∃ p : Int × Int, v = hdgMV p) ?_ h20 (by simpa using h21) ?_
      · intro v hv
        obtain ⟨p, _, rfl⟩ := List.mem_map.mp hv
        exact ⟨p, rfl⟩
      rintro v ⟨p, rfl⟩
      decreasing_tactic
      exact ⟨p.1, p.2, u2, rfl, rfl, hu2.mono (by omega)⟩
    · exact ⟨0, 1, u1, rfl, rfl, hu1.mono (by omega)⟩
  rintro l h ⟨a, b, u2, rfl, rfl, hu2⟩
  decreasing_tactic
  refine draw_wp hu2 (by omega) (by omega) (by omega) fun r3 u3 hu3 h30 h31 => ?_
  refine wp_ixFp (fun v => ∀ h : MH, Th h v) ?_ h30 (by simpa using h31) fun v hv => ?_
  · intro v hv h
    have pr : ∀ {x y : MV}, Th h x → Th h y → Th h (.tup [x, y]) := tp2
    simp only [List.mem_cons, List.not_mem_nil, or_false] at hv
    rcases hv with rfl | rfl | rfl | rfl | rfl | rfl | rfl | rfl | rfl | rfl | rfl | rfl
    · exact tp2 .int' .int'
    · exact tp2 .int' .int'
    · exact tp2 .int' .int'
    · exact tp2 .int' .int'
    · simp [Th, ThA]
    · exact .tup' fun x hx => by
        have := cutM_mem16 hx
        simp only [List.mem_cons, List.not_mem_nil, or_false] at this
        rcases this with rfl | rfl <;> exact .int'
    · simp [Th]
    · exact tp2 .int' (hodd _)
    · exact tp2 (hodd _) .int'
    · simp [Th]
    · simp [Th]
    · exact tp2 .int' .int'
  decreasing_tactic
  refine q0 _ _ (hu3.mono (by omega)) (tp2 .int' (.tup' fun x hx => ?_))
  rcases List.mem_append.mp hx with z | z
  · exact hdgs_th x z
  · rw [List.mem_singleton] at z
    rw [z]; exact hv _


/-- data, d deep at most -/
def Dt : Nat → MV → Prop
  | _, .non => True
  | _, .bl _ => True
  | _, .int _ => True
  | _, .str _ => True
  | d + 1, .tup xs => xs.length ≤ 16777216 ∧ ∀ x ∈ xs, Dt d x
  | d + 1, .fl xs => xs.length ≤ 16777216 ∧ ∀ x ∈ xs, Dt d x
  | _, _ => False
theorem zipMV_self : ∀ xs : List MV, zipMV xs xs = xs.map fun x => .tup [x, x]
  | [] => rfl
  | x :: xs => by rw [List.map_cons, ← zipMV_self xs]; rfl
theorem alike_wp : ∀ {d : Nat} {v : MV} {h : MH} {Q : MV → MH → Prop} {E : PE'}, Dt d v → Q (.bl true) h → okR (n_law_alike (d + 1) [v, v] h) Q E := by
  intro d
  induction d with
  | zero =>
    intro v h Q E hv q
    unfold n_law_alike b_law_alike
    (refine wp_run ?_; simp only [List.map_cons, List.map_nil, List.reduceReplicate, List.cons_append, List.nil_append, Nat.reduceSub])
    cases v with
    | tup xs => exact hv.elim
    | fl xs => exact hv.elim
    | ref n => exact hv.elim
    | glo x => exact hv.elim
    | _ => decreasing_tactic; first | exact q | (simp at *; done) | (simp; exact q)
  | succ d ih =>
    intro v h Q E hv q
    unfold n_law_alike b_law_alike
    (refine wp_run ?_; simp only [List.map_cons, List.map_nil, List.reduceReplicate, List.cons_append, List.nil_append, Nat.reduceSub])
    cases v with
    | tup xs =>
      obtain ⟨hl, ha⟩ : xs.length ≤ 16777216 ∧ ∀ x ∈ xs, Dt d x := hv
      decreasing_tactic
      rw [zipMV_self]
      refine wp_lc0 (f := fun _ => .bl true) (L := fun x => [some (.tup xs), some (.tup xs), some x, some x]) (fun y hy => rfl) ?_ hl ?_
      · intro y hy
        decreasing_tactic
        refine ih (ha y hy) ⟨rfl, rfl⟩
      · decreasing_tactic
        refine wp_allF (bs := xs.map fun _ => true) (blsOf_map _ _) ?_
        rw [List.all_map, show (xs.all (id ∘ fun _ => true)) = true from List.all_eq_true.mpr fun _ _ => rfl]
        exact q
    | fl xs =>
      obtain ⟨hl, ha⟩ : xs.length ≤ 16777216 ∧ ∀ x ∈ xs, Dt d x := hv
      decreasing_tactic
      rw [zipMV_self]
      refine wp_lc0 (f := fun _ => .bl true) (L := fun x => [some (.fl xs), some (.fl xs), some x, some x]) (fun y hy => rfl) ?_ hl ?_
      · intro y hy
        decreasing_tactic
        refine ih (ha y hy) ⟨rfl, rfl⟩
      · decreasing_tactic
        refine wp_allF (bs := xs.map fun _ => true) (blsOf_map _ _) ?_
        rw [List.all_map, show (xs.all (id ∘ fun _ => true)) = true from List.all_eq_true.mpr fun _ _ => rfl]
        exact q
    | ref n => exact hv.elim
    | glo x => exact hv.elim
    | _ => decreasing_tactic; first | exact q | (simp at *; done) | (simp; exact q)
theorem alike8 {v : MV} {h : MH} {Q : MV → MH → Prop} {E : PE'} (hv : Dt 7 v) (q : Q (.bl true) h) : okR (m_law_alike [v, v] h) Q E := by
  unfold m_law_alike
  exact alike_wp hv q
theorem Dt.up : ∀ {d : Nat} {v : MV}, Dt d v → Dt (d + 1) v
  | _, .non, _ => trivial
  | _, .bl _, _ => trivial
  | _, .int _, _ => trivial
  | _, .str _, _ => trivial
  | 0, .tup _, h => h.elim
  | 0, .fl _, h => h.elim
  | 0, .ref _, h => h.elim
  | 0, .glo _, h => h.elim
  | _ + 1, .tup _, h => ⟨h.1, fun x hx => (h.2 x hx).up⟩
  | _ + 1, .fl _, h => ⟨h.1, fun x hx => (h.2 x hx).up⟩
  | _ + 1, .ref _, h => h.elim
  | _ + 1, .glo _, h => h.elim


theorem isHedge_hdg {m : Int} {p : Int × Int} : isHedge m (hdgMV p) = (decide (0 ≤ p.1) && decide (p.1 < p.2) && decide (p.2 < m)) := rfl
/-- the law's own look at a net -/
theorem good_wp {x : MV} {h : MH} {Q : MV → MH → Prop} {E : PE'} (ht : Th h x) (q : Q (.bl (isNet x)) h) : okR (m_law_good_k16 [x] h) Q E := by
  unfold m_law_good_k16 b_law_good_k16
  (refine wp_run ?_; simp only [List.map_cons, List.map_nil, List.reduceReplicate, List.cons_append, List.nil_append, Nat.reduceSub])
  cases x with
  | ref n => have := ty_dict ht; decreasing_tactic; exact q
  | glo n => unfold Th at ht; exact ht.elim
  | tup xs =>
    match xs, ht, q with
    | [], ht, q => decreasing_tactic; all_goals first | exact q | (simp at hc; done)
    | [a], ht, q => rw [isNet_a] at q; decreasing_tactic; all_goals first | exact q | (exfalso; simp at hc; done)
    | a :: b :: c :: r, ht, q => rw [isNet_b] at q; decreasing_tactic; all_goals first | exact q | (exfalso; simp at hc; omega)
    | [a, b], ht, q =>
      have ha : Th h a := by unfold Th ThA at ht; exact ht.1
      have hb : Th h b := by unfold Th ThA at ht; exact ht.2.mem (by simp)
      decreasing_tactic
      refine isi_tup hb ?_
      decreasing_tactic
      refine okB_bn (fun hwb => ?_) (fun hwb => ?_)
      · rw [isNet_1 hwb] at q
        decreasing_tactic
        exact q
      obtain ⟨hs, rfl⟩ : ∃ hs, b = .tup hs := by cases b <;> simp [isTup] at hwb; exact ⟨_, rfl⟩
      have hs' : ∀ y ∈ hs, Th h y := fun y hy => by unfold Th at hb; exact hb.mem hy
      cases a with
      | int i =>
        decreasing_tactic
        · rw [show isNet (.tup [.int i, .tup hs]) = false by simp [isNet, *]] at q; exact q
        · rw [show isNet (.tup [.int i, .tup hs]) = false by simp [isNet, *]] at q; exact q
        · rw [show isNet (.tup [.int i, .tup hs]) = false by simp [isNet, *]] at q; exact q
        · refine forGo_inv (fun k l h' => h' = h ∧ (∃ x1 x2 : Option MV, l = [some (.tup [.int i, .tup hs]), x1, x2]) ∧ ∀ y ∈ hs.take k, isHedge i y = true) ⟨rfl, ⟨_, _, rfl⟩, by simp⟩ ?_ ?_
          · rintro k y l h' hy ⟨rfl, ⟨x1, x2, rfl⟩, hall⟩
            have hym := List.mem_of_getElem? hy
            have hty := hs' y hym
            have bad : isHedge i y = false → Q (.bl false) h' := fun e => by
              have : isNet (.tup [.int i, .tup hs]) = false := by
                have : hs.all (isHedge i) = false := List.all_eq_false.mpr ⟨y, hym, by rw [e]; simp⟩
                simp [isNet, this]
              rw [this] at q; exact q
            have good : isHedge i y = true → ∀ z ∈ hs.take (k + 1), isHedge i z = true := fun e z hz => by
              rw [List.take_succ, hy] at hz
              rcases List.mem_append.mp hz with h1 | h1
              · exact hall z h1
              · simp at h1; rw [h1]; exact e
            refine ⟨_, rfl, ?_⟩
            cases y with
            | ref n => have := ty_dict hty; decreasing_tactic; exact bad rfl
            | glo n => unfold Th at hty; exact hty.elim
            | tup ys =>
              match ys, hty, bad, good with
              | [], hty, bad, good => decreasing_tactic; all_goals first | exact bad rfl | (simp at *; done)
              | [a], hty, bad, good => decreasing_tactic; all_goals first | exact bad isHedge_a | (exfalso; simp at hc; done)
              | a :: b :: c :: r, hty, bad, good => decreasing_tactic; all_goals first | exact bad isHedge_b | (exfalso; simp at hc; omega)
              | [a, b], hty, bad, good =>
                have ta : Th h' a := by unfold Th ThA at hty; exact hty.1
                have tb : Th h' b := by unfold Th ThA at hty; exact hty.2.mem (by simp)
                decreasing_tactic
                refine forGo_cons rfl ?_
                cases a with
                | int a =>
                  decreasing_tactic
                  · exact bad (by cases b <;> simp [isHedge] <;> omega)
                  · exact bad (by cases b <;> simp [isHedge] <;> omega)
                  refine forGo_cons rfl ?_
                  cases b with
                  | int b =>
                    decreasing_tactic
                    · exact bad (by simp [isHedge]; omega)
                    · exact bad (by simp [isHedge]; omega)
                    refine forGo_nil ?_
                    decreasing_tactic
                    · exact bad (by simp [isHedge]; omega)
                    · exact ⟨⟨_, _, rfl⟩, good (by simp [isHedge]; omega)⟩
                  | ref n => have := ty_dict tb; decreasing_tactic; exact bad (isHedge_1 rfl)
                  | glo n => unfold Th at tb; exact tb.elim
                  | _ => decreasing_tactic; exact bad (isHedge_1 rfl)
                | ref n => have := ty_dict ta; decreasing_tactic; exact bad (isHedge_0 rfl)
                | glo n => unfold Th at ta; exact ta.elim
                | _ => decreasing_tactic; exact bad (isHedge_0 rfl)
            | _ => decreasing_tactic; exact bad rfl
          · rintro l h' ⟨rfl, ⟨x1, x2, rfl⟩, hall⟩
            decreasing_tactic
            have : isNet (.tup [.int i, .tup hs]) = true := by
              have : hs.all (isHedge i) = true := List.all_eq_true.mpr fun y hy => hall y (by rw [List.take_length]; exact hy)
              simp [isNet, *]
            rw [this] at q; exact q
      | ref n => have := ty_dict ha; rw [isNet_0 rfl] at q; decreasing_tactic; exact q
      | glo n => unfold Th at ha; exact ha.elim
      | _ => rw [isNet_0 rfl] at q; decreasing_tactic; exact q
  | _ => decreasing_tactic; exact q
theorem made16_wp {x : MV} {h : MH} {Q : MV → MH → Prop} {E : PE'} (ht : Th h x)
    (q1 : ∀ g hs h' w bs, x = .tup [.int g, .tup hs] → isNet x = true → Kept (fun _ => False) h h' → Wd1 h' w x (w + 1) (w + 2) (w + 3) (List.replicate hs.length ruleV) (List.replicate hs.length false) [] 0 bs → (bs.length : Int) = g → (∀ b ∈ bs, ∃ d s, Bk h' b d s [] 0) → Q (.tup [.ref w, .bl false]) h')
    (q2 : ∀ s : MH, isNet x = false → Q (.tup [.non, .bl true]) (h ++ s)) : okR (m_law_made_k16 [x] h) Q E := by
  unfold m_law_made_k16 b_law_made_k16
  (refine wp_run ?_; simp only [List.map_cons, List.map_nil, List.reduceReplicate, List.cons_append, List.nil_append, Nat.reduceSub])
  decreasing_tactic
  have ht' : Th (h ++ [MO.ins "World" []]) x := ht.app
  by_cases hnet : isNet x = true
  · obtain ⟨g, hs, rfl, -⟩ := isNet_get hnet
    refine world_init_wp get_end ht' hnet fun h' bs kp wd hl hb => ?_
    simp only [List.length_append, List.length_cons, List.length_nil] at wd
    decreasing_tactic
    exact q1 g hs h' h.length bs rfl hnet ((Kept.app (p := fun _ => False) (t := [MO.ins "World" []])).trans' kp (fun i hi => by omega)) wd hl fun b hb' => by
      obtain ⟨-, d, s, -, h3⟩ := hb b hb'
      exact ⟨d, s, h3⟩
  · rw [Bool.not_eq_true] at hnet
    refine world_init_bad ht' hnet ?_
    decreasing_tactic
    exact q2 _ hnet
theorem sort0 : sortI [] = [] := by unfold sortI; exact List.mergeSort_nil
theorem mem_rg {lo : Int} {n k : Nat} {x : MV} (e : (rgMV lo n)[k]? = some x) : k < n ∧ x = .int (lo + (k : Nat)) := rgMV_get e
/-- nothing is in the world -/
theorem fresh_wp {g : Int} {hs : List MV} {h : MH} {w : Nat} {bs : List Nat} {Q : MV → MH → Prop} {E : PE'} (hnet : isNet (.tup [.int g, .tup hs]) = true) (hd : Dt 5 (.tup [.int g, .tup hs]))
    (B : Wd1 h w (.tup [.int g, .tup hs]) (w + 1) (w + 2) (w + 3) (List.replicate hs.length ruleV) (List.replicate hs.length false) [] 0 bs) (hl : (bs.length : Int) = g) (hb : ∀ b ∈ bs, ∃ d s, Bk h b d s [] 0)
    (q : Q (.bl true) h) : okR (m_law_fresh [.ref w, .tup [.int g, .tup hs]] h) Q E := by
  obtain ⟨g', hs', e0, hg1, hg2, hhl, hh⟩ := isNet_get hnet
  cases e0
  have hw := B.w
  unfold m_law_fresh b_law_fresh
  (refine wp_run ?_; simp only [List.map_cons, List.map_nil, List.reduceReplicate, List.cons_append, List.nil_append, Nat.reduceSub])
  decreasing_tactic
  refine net_of_wp B ?_
  decreasing_tactic
  refine things_wp (ns := []) B rfl (by decide) ?_
  decreasing_tactic
  refine next_thing_wp B ?_
  decreasing_tactic
  refine wlen_wp B ?_
  refine ⟨_, rfl, by simp, by simp, ?_⟩
  decreasing_tactic
  rw [sort0]
  have hn0 : Dt 7 (.fl [.tup [.int g, .tup hs], .fl (List.map MV.int []), .int 0, .int ((([] : List (Key × MV)).length : Nat) : Int)]) := ⟨by simp, fun x hx => by
    simp only [List.mem_cons, List.not_mem_nil, or_false] at hx
    rcases hx with rfl | rfl | rfl | rfl
    · exact hd.up
    · exact ⟨by simp, by simp⟩
    · trivial
    · trivial⟩
  refine alike8 hn0 ?_
  decreasing_tactic
  refine forGo_inv (fun k l h' => h' = h ∧ ∃ x2 : Option MV, l = [some (.ref w), some (.tup [.int g, .tup hs]), x2, none]) ⟨rfl, _, rfl⟩ ?_ ?_
  · rintro k x l h' hx ⟨rfl, x2, rfl⟩
    obtain ⟨hk, rfl⟩ := rgMV_get hx
    refine ⟨_, rfl, ?_⟩
    decreasing_tactic
    refine many_handles_wp B (fun h0 h1 b hb' => ?_) (fun z => by omega)
    obtain ⟨d, s, bk⟩ := hb b (List.mem_of_getElem? hb')
    refine ⟨d, s, [], 0, bk, ?_⟩
    decreasing_tactic
    refine handles_wp B (fun h0 h1 b2 hb2 => ?_) (fun z => by omega)
    rw [hb'] at hb2; cases hb2
    refine ⟨d, s, [], 0, [], bk, rfl, by decide, ?_⟩
    decreasing_tactic
    rw [sort0]
    have hn1 : Dt 7 (.tup [.int ((([] : List (Key × MV)).length : Nat) : Int), .fl (List.map MV.int [])]) := ⟨by simp, fun x hx => by
      simp only [List.mem_cons, List.not_mem_nil, or_false] at hx
      rcases hx with rfl | rfl
      · trivial
      · exact ⟨by simp, by simp⟩⟩
    refine alike8 hn1 ?_
    decreasing_tactic
    exact ⟨_, rfl⟩
  rintro l h' ⟨rfl, x2, rfl⟩
  decreasing_tactic
  refine forGo_inv (fun k l h => h = h' ∧ ∃ x3 : Option MV, l = [some (.ref w), some (.tup [.int g, .tup hs]), x2, x3]) ⟨rfl, _, rfl⟩ ?_ ?_
  · rintro k x l h hx ⟨rfl, x3, rfl⟩
    obtain ⟨hk, rfl⟩ := rgMV_get hx
    have hk' : k < hs.length := by omega
    refine ⟨_, rfl, ?_⟩
    decreasing_tactic
    refine rule_of_wp B (by simp) (fun h0 h1 b hb' => ?_) (fun z => by rw [List.length_replicate] at z; omega)
    have e1 := List.eq_of_mem_replicate (List.mem_of_getElem? hb')
    subst e1
    decreasing_tactic
    refine is_cut_wp B (fun h0 h1 b hb' => ?_) (fun z => by rw [List.length_replicate] at z; omega)
    have e1 := List.eq_of_mem_replicate (List.mem_of_getElem? hb')
    subst e1
    decreasing_tactic
    have hn2 : Dt 7 (.tup [ruleV, .bl false]) := by simp [Dt, ruleV]
    refine alike8 hn2 ?_
    decreasing_tactic
    exact ⟨_, rfl⟩
  rintro l h ⟨rfl, x3, rfl⟩
  decreasing_tactic
  exact q
theorem hedge_dt {g : Int} {y : MV} (h : isHedge g y = true) : ∃ a b : Int, y = .tup [.int a, .int b] := by
  unfold isHedge at h
  split at h
  · exact ⟨_, _, rfl⟩
  · cases h
theorem net_dt {x : MV} (h : isNet x = true) : Dt 5 x ∧ ∀ h' : MH, Th h' x := by
  obtain ⟨g, hs, rfl, -, -, hl, hh⟩ := isNet_get h
  refine ⟨⟨by simp, fun x hx => ?_⟩, fun h' => .tup' fun x hx => ?_⟩
  · simp only [List.mem_cons, List.not_mem_nil, or_false] at hx
    rcases hx with rfl | rfl
    · trivial
    · refine ⟨by omega, fun y hy => ?_⟩
      obtain ⟨a, b, rfl⟩ := hedge_dt (hh y hy)
      simp [Dt]
  · simp only [List.mem_cons, List.not_mem_nil, or_false] at hx
    rcases hx with rfl | rfl
    · exact .int'
    · refine .tup' fun y hy => ?_
      obtain ⟨a, b, rfl⟩ := hedge_dt (hh y hy)
      simp [Th, ThA]
theorem law_k16 : ∀ ns : List Int, ns.length ≤ 63 → (∀ z ∈ ns, Builtin.Int.intBits z ≤ 1048576) → ∃ h', m_law_k16 [.fl (ns.map .int)] [] = .ok (.bl true) h' := by
  intro ns hl hb
  suffices H : okR (m_law_k16 [.fl (ns.map .int)] []) (fun v h => v = .bl true) noE by
    obtain ⟨a, h, e, rfl⟩ := okR_iff.mp H
    exact ⟨h, e⟩
  unfold m_law_k16 b_law_k16
  refine wp_drop0 ?_
  (refine wp_run ?_; simp only [List.map_cons, List.map_nil, List.reduceReplicate, List.cons_append, List.nil_append, Nat.reduceSub])
  decreasing_tactic
  have c1 := cutM_len ns none (some 30)
  decreasing_tactic
  obtain ⟨ms, hms⟩ : ∃ ms : List Int, ms = (ns.length : Int) :: cutM ns none (some 30) := ⟨_, rfl⟩
  have em : enumMV (MV.int ns.length :: (cutM ns none (some 30)).map MV.int) = enumMV (ms.map .int) := by rw [hms]; rfl
  refine forGo_inv (fun k l h => ∃ x1 x2 x3 x4 x5 x6 : Option MV, l = [some (.fl (ns.map .int)), x1, x2, x3, x4, x5, x6]) ⟨_, _, _, _, _, _, rfl⟩ ?_ ?_
  · rintro k y l h hy ⟨x1, x2, x3, x4, x5, x6, rfl⟩
    obtain ⟨z, rfl⟩ : ∃ z : Int, y = .tup [.int (k : Nat), .int z] := by
      have hy' : (enumMV (ms.map .int))[k]? = some y := by rw [← em]; exact hy
      unfold enumMV at hy'
      rw [List.getElem?_mapIdx, List.getElem?_map] at hy'
      cases e : ms[k]? with
      | none => rw [e] at hy'; simp at hy'
      | some z => rw [e] at hy'; simp at hy'; exact ⟨z, hy'.symm⟩
    have hk : k < 65 := by
      have h1 := (List.getElem?_eq_some_iff.mp hy).1
      unfold enumMV at h1
      simp only [List.length_mapIdx, List.length_map, List.length_cons] at h1
      omega
    refine ⟨_, rfl, ?_⟩
    decreasing_tactic
    refine bag_wp (by omega) (by omega) fun u hu => ?_
    decreasing_tactic
    refine net16_wp (t := []) hu (by omega) fun m hs u2 hu2 hn => ?_
    decreasing_tactic
    refine sp16_wp (t := []) hu2 (by omega) hn fun x u3 s hu3 hx => ?_
    decreasing_tactic
    refine made16_wp hx (fun g hs h' w bs e hnet kp wd hl hb => ?_) (fun s hnet => ?_)
    · subst e
      obtain ⟨hd, hth⟩ := net_dt hnet
      decreasing_tactic
      refine ⟨_, rfl, ?_⟩
      decreasing_tactic
      refine good_wp (hth _) ?_
      rw [hnet]
      decreasing_tactic
      refine fresh_wp hnet hd wd hl hb ?_
      decreasing_tactic
      exact ⟨_, _, _, _, _, _, rfl⟩
    · decreasing_tactic
      refine ⟨_, rfl, ?_⟩
      decreasing_tactic
      have hx2 := Th.app (t := s) hx
      simp only [List.nil_append, List.append_assoc, List.cons_append] at hx2
      refine good_wp hx2 ?_
      rw [hnet]
      decreasing_tactic
      exact ⟨_, _, _, _, _, _, rfl⟩
  · rintro l h ⟨x1, x2, x3, x4, x5, x6, rfl⟩
    decreasing_tactic
    exact ⟨h, rfl, rfl, by trivial⟩
end ML

set_option maxRecDepth 100000
set_option maxHeartbeats 4000000
namespace K16
open PySem PySem.Spec PyProof.Rows L2 ML
structure Bt (mg : Str → Option Value) : Prop where
  «ValueError» : mg "ValueError" = none
  «all» : mg "all" = none
  «bool» : mg "bool" = none
  «enumerate» : mg "enumerate" = none
  «int» : mg "int" = none
  «isinstance» : mg "isinstance" = none
  «len» : mg "len" = none
  «list» : mg "list" = none
  «max» : mg "max" = none
  «range» : mg "range" = none
  «sorted» : mg "sorted" = none
  «str» : mg "str" = none
  «tuple» : mg "tuple" = none
  «zip» : mg "zip" = none
structure Xt (P : Program) (w : World) (K : PySem.W.Frag) (mg : Str → Option Value) (base : Heap) : Prop where
  fi_cuts_kept : FiF K mg "cuts_kept" ["World"]
  x_NoHedge : XcF K mg "NoHedge"
  fi_rules_kept : FiF K mg "rules_kept" ["World"]
  fi_by_number : FiF K mg "by_number" ["Book"]
  fi_books : FiF K mg "books" ["World"]
  x_NoGarden : XcF K mg "NoGarden"
  fi_things_kept : FiF K mg "things_kept" ["World"]
  fi_next_kept : FiF K mg "next_kept" ["World"]
  fi_net_kept : FiF K mg "net_kept" ["World"]
  is_ValueError : IsF K mg [.ty "ValueError"] ["Cut", "Deep", "HedgeError", "Long", "NoDeed", "NoField", "NoGarden", "NoHandle", "NoHedge", "NoName", "NoNet", "NoRule", "NoSum", "NoText", "NoValue", "NoWalk", "Shut", "Unknown"] []
  is_NoNet : IsF K mg [.own "NoNet"] ["NoNet"] ["Cut", "Deep", "HedgeError", "Long", "NoDeed", "NoField", "NoGarden", "NoHandle", "NoHedge", "NoName", "NoRule", "NoSum", "NoText", "NoValue", "NoWalk", "Shut", "Unknown"]
  is_Cut_NoField_NoGarden_NoHandle_NoHedge_NoName_NoRule_NoText_NoValue_NoWalk_Shut : IsF K mg [.own "Cut", .own "NoField", .own "NoGarden", .own "NoHandle", .own "NoHedge", .own "NoName", .own "NoRule", .own "NoText", .own "NoValue", .own "NoWalk", .own "Shut"] ["Cut", "NoField", "NoGarden", "NoHandle", "NoHedge", "NoName", "NoRule", "NoText", "NoValue", "NoWalk", "Shut"] ["Deep", "HedgeError", "Long", "NoDeed", "NoNet", "NoSum", "Unknown"]
  tl_HedgeError_NoNet__ : TlF K mg "HedgeError" ["NoNet"] []
  tc_WORDS : TcF K mg "WORDS" ["look", "put", "call"]
  x_NoNet : XcF K mg "NoNet"
  fi_next_number : FiF K mg "next_number" ["Book"]
  fi_by_seen : FiF K mg "by_seen" ["Book"]
section
variable {P : Program} {w : World} {K : PySem.W.Frag} {mg : Str → Option Value} {base : Heap}
abbrev N__law_good : List Str := ["thing", "hedge", "garden"]
theorem sc__law_good : FnScope N__law_good ["thing"] (defScope s__law_good) := ⟨rfl, rfl, rfl, by decide +kernel, rfl, by decide +kernel, by decide +kernel⟩
theorem f__law_good {f : Addr} {fd : FuncData} (F : FnP K "_law_good" "_law_good" s__law_good f fd) (hm : mg "_law_good" = some (.ref f)) (B : Bt mg) (T : Xt P w K mg base) : FnH P w K mg base "_law_good" 1 1 m_law_good_k16 f fd ["thing"] := by
  have nd := sc__law_good.nd
  refine (fnH F hm sc__law_good (fun _ _ _ _ _ _ us hl => match us, hl with | [_], _ => rfl) fun cdv A outer s H E hr => ?_)
  have tk : Takes (cxOf (L2.CX P w) P w K mg base N__law_good "_law_good" (defScope s__law_good) f cdv A outer s H E) (fun cls d _ H' => E cls d H') := takes_of rfl rfl rfl rfl
  have pw : PassesOwn (model P w) (cxOf (L2.CX P w) P w K mg base N__law_good "_law_good" (defScope s__law_good) f cdv A outer s H E).A (cxOf (L2.CX P w) P w K mg base N__law_good "_law_good" (defScope s__law_good) f cdv A outer s H E).env (cxOf (L2.CX P w) P w K mg base N__law_good "_law_good" (defScope s__law_good) f cdv A outer s H E).xe := passes_of rfl
  exact (mss_cons (ms_if (mt_w (mw_or (mt_not (mt_val (me_isi B.isinstance B.tuple (by decide +kernel) (me_var 0)))) (mw_or (mt_cmp (om_ne hr.units) nx_ne (me_callB cm_len nx_len B.len (by decide +kernel) (ma_cons (me_var 0) ma_nil)) me_int) (mw_or1 (mt_not (mt_val (me_isi B.isinstance B.tuple (by decide +kernel) (me_ix (me_var 0) me_int)))))))) (mss_one (ms_ret me_bl)) mss_nil)
  (mss_cons (ms_if (mt_w (mw_or (mt_not (mt_val (me_isi B.isinstance B.int (by decide +kernel) (me_ix (me_var 0) me_int)))) (mw_or (mt_val (me_isi B.isinstance B.bool (by decide +kernel) (me_ix (me_var 0) me_int))) (mw_or (mt_cmp om_lt nx_cmp (me_ix (me_var 0) me_int) me_int) (mw_or1 (mt_cmp om_gt nx_cmp (me_ix (me_var 0) me_int) me_int)))))) (mss_one (ms_ret me_bl)) mss_nil)
  (mss_cons (ms_if (mt_cmp om_gt nx_cmp (me_callB cm_len nx_len B.len (by decide +kernel) (ma_cons (me_ix (me_var 0) me_int) ma_nil)) me_int) (mss_one (ms_ret me_bl)) mss_nil)
  (mss_cons (ms_for pw rfl (mi_val (me_ix (me_var 0) me_int)) (mg_name 1 nd) (mss_cons (ms_if (mt_w (mw_or (mt_not (mt_val (me_isi B.isinstance B.tuple (by decide +kernel) (me_var 1)))) (mw_or1 (mt_cmp (om_ne hr.units) nx_ne (me_callB cm_len nx_len B.len (by decide +kernel) (ma_cons (me_var 1) ma_nil)) me_int)))) (mss_one (ms_ret me_bl)) mss_nil)
  (mss_cons (ms_for pw rfl (mi_val (me_var 1)) (mg_name 2 nd) (mss_one (ms_if (mt_w (mw_or (mt_not (mt_val (me_isi B.isinstance B.int (by decide +kernel) (me_var 2)))) (mw_or (mt_val (me_isi B.isinstance B.bool (by decide +kernel) (me_var 2))) (mw_or (mt_cmp om_lt nx_cmp (me_var 2) me_int) (mw_or1 (mt_cmp om_ge nx_ge (me_var 2) (me_ix (me_var 0) me_int))))))) (mss_one (ms_ret me_bl)) mss_nil)))
  (mss_one (ms_if (mt_cmp om_ge nx_ge (me_ix (me_var 1) me_int) (me_ix (me_var 1) me_int)) (mss_one (ms_ret me_bl)) mss_nil)))))
  (mss_one (ms_ret me_bl))))))
abbrev N__law_alike : List Str := ["found", "due", "one", "other"]
theorem sc__law_alike : FnScope N__law_alike ["found", "due"] (defScope s__law_alike) := ⟨rfl, rfl, rfl, by decide +kernel, rfl, by decide +kernel, by decide +kernel⟩
theorem f__law_alike {f : Addr} {fd : FuncData} (F : FnP K "_law_alike" "_law_alike" s__law_alike f fd) (hm : mg "_law_alike" = some (.ref f)) (B : Bt mg) (T : Xt P w K mg base) : ∀ j : Nat, FnH P w K mg base "_law_alike" 2 (1 + j) (n_law_alike j) f fd ["found", "due"]
  | 0 => fnH0 F hm (fun _ _ _ _ _ _ us hl => match us, hl with | [_, _], _ => rfl)
  | j + 1 => by
    have G__law_alike := (f__law_alike F hm B T j).M
    have nd := sc__law_alike.nd
    refine (fnH (k := 1 + j) F hm sc__law_alike (fun _ _ _ _ _ _ us hl => match us, hl with | [_, _], _ => rfl) fun cdv A outer s H E hr => ?_)
    have tk : Takes (cxOf (L2.CX P w) P w K mg base N__law_alike "_law_alike" (defScope s__law_alike) f cdv A outer s H E) (fun cls d _ H' => E cls d H') := takes_of rfl rfl rfl rfl
    have pw : PassesOwn (model P w) (cxOf (L2.CX P w) P w K mg base N__law_alike "_law_alike" (defScope s__law_alike) f cdv A outer s H E).A (cxOf (L2.CX P w) P w K mg base N__law_alike "_law_alike" (defScope s__law_alike) f cdv A outer s H E).env (cxOf (L2.CX P w) P w K mg base N__law_alike "_law_alike" (defScope s__law_alike) f cdv A outer s H E).xe := passes_of rfl
    exact (mss_cons (ms_if (mt_cmp om_is nx_is (me_var 1) me_non) (mss_one (ms_ret (me_isN (me_var 0)))) mss_nil)
    (mss_cons (ms_if (mt_val (me_isi B.isinstance B.bool (by decide +kernel) (me_var 1))) (mss_one (ms_ret (me_and (me_isi B.isinstance B.bool (by decide +kernel) (me_var 0)) (me_one (me_cmp (om_eq hr.units) nx_eq (me_var 0) (me_var 1)))))) mss_nil)
    (mss_cons (ms_if (mt_val (me_isi B.isinstance B.int (by decide +kernel) (me_var 1))) (mss_one (ms_ret (me_and (me_isi B.isinstance B.int (by decide +kernel) (me_var 0)) (me_and (me_not (me_isi B.isinstance B.bool (by decide +kernel) (me_var 0))) (me_one (me_cmp (om_eq hr.units) nx_eq (me_var 0) (me_var 1))))))) mss_nil)
    (mss_cons (ms_if (mt_val (me_isi B.isinstance B.str (by decide +kernel) (me_var 1))) (mss_one (ms_ret (me_and (me_isi B.isinstance B.str (by decide +kernel) (me_var 0)) (me_one (me_cmp (om_eq hr.units) nx_eq (me_var 0) (me_var 1)))))) mss_nil)
    (mss_cons (ms_if (mt_w (mw_or (mt_cmp (om_ne hr.units) nx_ne (me_isi B.isinstance B.tuple (by decide +kernel) (me_var 1)) (me_isi B.isinstance B.tuple (by decide +kernel) (me_var 0))) (mw_or1 (mt_cmp (om_ne hr.units) nx_ne (me_isi B.isinstance B.list (by decide +kernel) (me_var 1)) (me_isi B.isinstance B.list (by decide +kernel) (me_var 0)))))) (mss_one (ms_ret me_bl)) mss_nil)
    (mss_one (ms_ret (me_and (me_cmp (om_eq hr.units) nx_eq (me_callB cm_len nx_len B.len (by decide +kernel) (ma_cons (me_var 0) ma_nil)) (me_callB cm_len nx_len B.len (by decide +kernel) (ma_cons (me_var 1) ma_nil))) (me_one (me_callB (cm_all rfl) nx_all B.all (by decide +kernel) (ma_cons (me_fl (ml_lc (own := [("one", 2), ("other", 3)]) (t := (.tp [2, 3])) rfl nd (mi_zip B.zip (ma_cons (me_var 0) (ma_cons (me_var 1) ma_nil))) (blkOk_by (N := N__law_alike) (sc := defScope s__law_alike) (by decide +kernel)) rfl (fun _ _ _ _ _ => (mg_tup rfl (mgs_cons (i := 2) nd (mgs_cons (i := 3) nd mgs_nil)))) (fun _ _ _ _ _ => mts_nil) (fun _ _ _ _ _ => (me_call G__law_alike (hr.mono (by omega)) takes0 (ma_cons (me_var 2) (ma_cons (me_var 3) ma_nil)))))) ma_nil)))))))))))
abbrev N_World_hedge_known : List Str := ["self", "hedge"]
theorem sc_World_hedge_known : FnScope N_World_hedge_known ["self", "hedge"] (defScope s_World_hedge_known) := ⟨rfl, rfl, rfl, by decide +kernel, rfl, by decide +kernel, by decide +kernel⟩
theorem f_World_hedge_known {fd : FuncData} (F : FunD K "hedge_known" "World.hedge_known" (defArgs s_World_hedge_known) (defBody s_World_hedge_known) (defScope s_World_hedge_known) [] [] (He.fAd K ("World", some "hedge_known")) fd) (M : MtF K mg "World" "hedge_known") (B : Bt mg) (T : Xt P w K mg base) : FnI P w K mg base "World" "hedge_known" 2 1 [] m_World_hedge_known := by
  have nd := sc_World_hedge_known.nd
  have Q : FnOk P w K mg base (L2.CX P w) 1 (He.fAd K ("World", some "hedge_known")) fd ["self", "hedge"] (spM K mg 2 m_World_hedge_known) := by
    refine (fnQ (k := 0) F sc_World_hedge_known fun cdv A outer s H E hr => ?_)
    have tk : Takes (cxOf (L2.CX P w) P w K mg base N_World_hedge_known "World.hedge_known" (defScope s_World_hedge_known) (He.fAd K ("World", some "hedge_known")) cdv A outer s H E) (fun cls d _ H' => E cls d H') := takes_of rfl rfl rfl rfl
    have pw : PassesOwn (model P w) (cxOf (L2.CX P w) P w K mg base N_World_hedge_known "World.hedge_known" (defScope s_World_hedge_known) (He.fAd K ("World", some "hedge_known")) cdv A outer s H E).A (cxOf (L2.CX P w) P w K mg base N_World_hedge_known "World.hedge_known" (defScope s_World_hedge_known) (He.fAd K ("World", some "hedge_known")) cdv A outer s H E).env (cxOf (L2.CX P w) P w K mg base N_World_hedge_known "World.hedge_known" (defScope s_World_hedge_known) (He.fAd K ("World", some "hedge_known")) cdv A outer s H E).xe := passes_of rfl
    exact (mss_one (ms_if (mt_w (mw_or (mt_cmp om_lt nx_cmp (me_var 1) me_int) (mw_or1 (mt_cmp om_ge nx_ge (me_var 1) (me_callB cm_len nx_len B.len (by decide +kernel) (ma_cons (me_fldI T.fi_cuts_kept (me_var 0)) ma_nil)))))) (mss_one (ms_raise tk T.x_NoHedge)) mss_nil))
  exact fnI_of M Q (F.bindsN (fun _ _ _ _ _ _ us hl => match us, hl with | [_, _], _ => rfl))
abbrev N_World_is_cut : List Str := ["self", "hedge"]
theorem sc_World_is_cut : FnScope N_World_is_cut ["self", "hedge"] (defScope s_World_is_cut) := ⟨rfl, rfl, rfl, by decide +kernel, rfl, by decide +kernel, by decide +kernel⟩
theorem f_World_is_cut {fd : FuncData} (F : FunD K "is_cut" "World.is_cut" (defArgs s_World_is_cut) (defBody s_World_is_cut) (defScope s_World_is_cut) [] [] (He.fAd K ("World", some "is_cut")) fd) (M : MtF K mg "World" "is_cut") (B : Bt mg) (T : Xt P w K mg base) (G_World_hedge_known : FnI P w K mg base "World" "hedge_known" 2 1 [] m_World_hedge_known) : FnI P w K mg base "World" "is_cut" 2 2 [] m_World_is_cut := by
  have nd := sc_World_is_cut.nd
  have Q : FnOk P w K mg base (L2.CX P w) 2 (He.fAd K ("World", some "is_cut")) fd ["self", "hedge"] (spM K mg 2 m_World_is_cut) := by
    refine (fnQ (k := 1) F sc_World_is_cut fun cdv A outer s H E hr => ?_)
    have tk : Takes (cxOf (L2.CX P w) P w K mg base N_World_is_cut "World.is_cut" (defScope s_World_is_cut) (He.fAd K ("World", some "is_cut")) cdv A outer s H E) (fun cls d _ H' => E cls d H') := takes_of rfl rfl rfl rfl
    have pw : PassesOwn (model P w) (cxOf (L2.CX P w) P w K mg base N_World_is_cut "World.is_cut" (defScope s_World_is_cut) (He.fAd K ("World", some "is_cut")) cdv A outer s H E).A (cxOf (L2.CX P w) P w K mg base N_World_is_cut "World.is_cut" (defScope s_World_is_cut) (He.fAd K ("World", some "is_cut")) cdv A outer s H E).env (cxOf (L2.CX P w) P w K mg base N_World_is_cut "World.is_cut" (defScope s_World_is_cut) (He.fAd K ("World", some "is_cut")) cdv A outer s H E).xe := passes_of rfl
    exact (mss_cons (ms_expr (me_meth G_World_hedge_known (hr.mono (by decide)) tk (me_var 0) (ma_cons (me_var 1) ma_nil)))
  (mss_one (ms_ret (me_ix (me_fldI T.fi_cuts_kept (me_var 0)) (me_var 1)))))
  exact fnI_of M Q (F.bindsN (fun _ _ _ _ _ _ us hl => match us, hl with | [_, _], _ => rfl))
abbrev N_World_rule_of : List Str := ["self", "hedge"]
theorem sc_World_rule_of : FnScope N_World_rule_of ["self", "hedge"] (defScope s_World_rule_of) := ⟨rfl, rfl, rfl, by decide +kernel, rfl, by decide +kernel, by decide +kernel⟩
theorem f_World_rule_of {fd : FuncData} (F : FunD K "rule_of" "World.rule_of" (defArgs s_World_rule_of) (defBody s_World_rule_of) (defScope s_World_rule_of) [] [] (He.fAd K ("World", some "rule_of")) fd) (M : MtF K mg "World" "rule_of") (B : Bt mg) (T : Xt P w K mg base) (G_World_hedge_known : FnI P w K mg base "World" "hedge_known" 2 1 [] m_World_hedge_known) : FnI P w K mg base "World" "rule_of" 2 2 [] m_World_rule_of := by
  have nd := sc_World_rule_of.nd
  have Q : FnOk P w K mg base (L2.CX P w) 2 (He.fAd K ("World", some "rule_of")) fd ["self", "hedge"] (spM K mg 2 m_World_rule_of) := by
    refine (fnQ (k := 1) F sc_World_rule_of fun cdv A outer s H E hr => ?_)
    have tk : Takes (cxOf (L2.CX P w) P w K mg base N_World_rule_of "World.rule_of" (defScope s_World_rule_of) (He.fAd K ("World", some "rule_of")) cdv A outer s H E) (fun cls d _ H' => E cls d H') := takes_of rfl rfl rfl rfl
    have pw : PassesOwn (model P w) (cxOf (L2.CX P w) P w K mg base N_World_rule_of "World.rule_of" (defScope s_World_rule_of) (He.fAd K ("World", some "rule_of")) cdv A outer s H E).A (cxOf (L2.CX P w) P w K mg base N_World_rule_of "World.rule_of" (defScope s_World_rule_of) (He.fAd K ("World", some "rule_of")) cdv A outer s H E).env (cxOf (L2.CX P w) P w K mg base N_World_rule_of "World.rule_of" (defScope s_World_rule_of) (He.fAd K ("World", some "rule_of")) cdv A outer s H E).xe := passes_of rfl
    exact (mss_cons (ms_expr (me_meth G_World_hedge_known (hr.mono (by decide)) tk (me_var 0) (ma_cons (me_var 1) ma_nil)))
  (mss_one (ms_ret (me_ix (me_fldI T.fi_rules_kept (me_var 0)) (me_var 1)))))
  exact fnI_of M Q (F.bindsN (fun _ _ _ _ _ _ us hl => match us, hl with | [_, _], _ => rfl))
abbrev N_World_book_of : List Str := ["self", "garden"]
theorem sc_World_book_of : FnScope N_World_book_of ["self", "garden"] (defScope s_World_book_of) := ⟨rfl, rfl, rfl, by decide +kernel, rfl, by decide +kernel, by decide +kernel⟩
theorem f_World_book_of {fd : FuncData} (F : FunD K "book_of" "World.book_of" (defArgs s_World_book_of) (defBody s_World_book_of) (defScope s_World_book_of) [] [] (He.fAd K ("World", some "book_of")) fd) (M : MtF K mg "World" "book_of") (B : Bt mg) (T : Xt P w K mg base) : FnI P w K mg base "World" "book_of" 2 1 [] m_World_book_of := by
  have nd := sc_World_book_of.nd
  have Q : FnOk P w K mg base (L2.CX P w) 1 (He.fAd K ("World", some "book_of")) fd ["self", "garden"] (spM K mg 2 m_World_book_of) := by
    refine (fnQ (k := 0) F sc_World_book_of fun cdv A outer s H E hr => ?_)
    have tk : Takes (cxOf (L2.CX P w) P w K mg base N_World_book_of "World.book_of" (defScope s_World_book_of) (He.fAd K ("World", some "book_of")) cdv A outer s H E) (fun cls d _ H' => E cls d H') := takes_of rfl rfl rfl rfl
    have pw : PassesOwn (model P w) (cxOf (L2.CX P w) P w K mg base N_World_book_of "World.book_of" (defScope s_World_book_of) (He.fAd K ("World", some "book_of")) cdv A outer s H E).A (cxOf (L2.CX P w) P w K mg base N_World_book_of "World.book_of" (defScope s_World_book_of) (He.fAd K ("World", some "book_of")) cdv A outer s H E).env (cxOf (L2.CX P w) P w K mg base N_World_book_of "World.book_of" (defScope s_World_book_of) (He.fAd K ("World", some "book_of")) cdv A outer s H E).xe := passes_of rfl
    exact (mss_cons (ms_if (mt_w (mw_or (mt_cmp om_lt nx_cmp (me_var 1) me_int) (mw_or1 (mt_cmp om_ge nx_ge (me_var 1) (me_callB cm_len nx_len B.len (by decide +kernel) (ma_cons (me_fldI T.fi_books (me_var 0)) ma_nil)))))) (mss_one (ms_raise tk T.x_NoGarden)) mss_nil)
  (mss_one (ms_ret (me_ix (me_fldI T.fi_books (me_var 0)) (me_var 1)))))
  exact fnI_of M Q (F.bindsN (fun _ _ _ _ _ _ us hl => match us, hl with | [_, _], _ => rfl))
abbrev N_World_handles : List Str := ["self", "garden"]
theorem sc_World_handles : FnScope N_World_handles ["self", "garden"] (defScope s_World_handles) := ⟨rfl, rfl, rfl, by decide +kernel, rfl, by decide +kernel, by decide +kernel⟩
theorem f_World_handles {fd : FuncData} (F : FunD K "handles" "World.handles" (defArgs s_World_handles) (defBody s_World_handles) (defScope s_World_handles) [] [] (He.fAd K ("World", some "handles")) fd) (M : MtF K mg "World" "handles") (B : Bt mg) (T : Xt P w K mg base) (G_World_book_of : FnI P w K mg base "World" "book_of" 2 1 [] m_World_book_of) : FnI P w K mg base "World" "handles" 2 2 [] m_World_handles := by
  have nd := sc_World_handles.nd
  have Q : FnOk P w K mg base (L2.CX P w) 2 (He.fAd K ("World", some "handles")) fd ["self", "garden"] (spM K mg 2 m_World_handles) := by
    refine (fnQ (k := 1) F sc_World_handles fun cdv A outer s H E hr => ?_)
    have tk : Takes (cxOf (L2.CX P w) P w K mg base N_World_handles "World.handles" (defScope s_World_handles) (He.fAd K ("World", some "handles")) cdv A outer s H E) (fun cls d _ H' => E cls d H') := takes_of rfl rfl rfl rfl
    have pw : PassesOwn (model P w) (cxOf (L2.CX P w) P w K mg base N_World_handles "World.handles" (defScope s_World_handles) (He.fAd K ("World", some "handles")) cdv A outer s H E).A (cxOf (L2.CX P w) P w K mg base N_World_handles "World.handles" (defScope s_World_handles) (He.fAd K ("World", some "handles")) cdv A outer s H E).env (cxOf (L2.CX P w) P w K mg base N_World_handles "World.handles" (defScope s_World_handles) (He.fAd K ("World", some "handles")) cdv A outer s H E).xe := passes_of rfl
    exact (mss_one (ms_ret (me_fl (ml_sortD rfl B.sorted (ma_cons (me_fldI T.fi_by_number (me_meth G_World_book_of (hr.mono (by decide)) tk (me_var 0) (ma_cons (me_var 1) ma_nil))) ma_nil)))))
  exact fnI_of M Q (F.bindsN (fun _ _ _ _ _ _ us hl => match us, hl with | [_, _], _ => rfl))
abbrev N_World_many_handles : List Str := ["self", "garden"]
theorem sc_World_many_handles : FnScope N_World_many_handles ["self", "garden"] (defScope s_World_many_handles) := ⟨rfl, rfl, rfl, by decide +kernel, rfl, by decide +kernel, by decide +kernel⟩
theorem f_World_many_handles {fd : FuncData} (F : FunD K "many_handles" "World.many_handles" (defArgs s_World_many_handles) (defBody s_World_many_handles) (defScope s_World_many_handles) [] [] (He.fAd K ("World", some "many_handles")) fd) (M : MtF K mg "World" "many_handles") (B : Bt mg) (T : Xt P w K mg base) (G_World_book_of : FnI P w K mg base "World" "book_of" 2 1 [] m_World_book_of) : FnI P w K mg base "World" "many_handles" 2 2 [] m_World_many_handles := by
  have nd := sc_World_many_handles.nd
  have Q : FnOk P w K mg base (L2.CX P w) 2 (He.fAd K ("World", some "many_handles")) fd ["self", "garden"] (spM K mg 2 m_World_many_handles) := by
    refine (fnQ (k := 1) F sc_World_many_handles fun cdv A outer s H E hr => ?_)
    have tk : Takes (cxOf (L2.CX P w) P w K mg base N_World_many_handles "World.many_handles" (defScope s_World_many_handles) (He.fAd K ("World", some "many_handles")) cdv A outer s H E) (fun cls d _ H' => E cls d H') := takes_of rfl rfl rfl rfl
    have pw : PassesOwn (model P w) (cxOf (L2.CX P w) P w K mg base N_World_many_handles "World.many_handles" (defScope s_World_many_handles) (He.fAd K ("World", some "many_handles")) cdv A outer s H E).A (cxOf (L2.CX P w) P w K mg base N_World_many_handles "World.many_handles" (defScope s_World_many_handles) (He.fAd K ("World", some "many_handles")) cdv A outer s H E).env (cxOf (L2.CX P w) P w K mg base N_World_many_handles "World.many_handles" (defScope s_World_many_handles) (He.fAd K ("World", some "many_handles")) cdv A outer s H E).xe := passes_of rfl
    exact (mss_one (ms_ret (me_callB cm_lenD nx_lenD B.len (by decide +kernel) (ma_cons (me_fldI T.fi_by_number (me_meth G_World_book_of (hr.mono (by decide)) tk (me_var 0) (ma_cons (me_var 1) ma_nil))) ma_nil))))
  exact fnI_of M Q (F.bindsN (fun _ _ _ _ _ _ us hl => match us, hl with | [_, _], _ => rfl))
abbrev N_World___len__ : List Str := ["self"]
theorem sc_World___len__ : FnScope N_World___len__ ["self"] (defScope s_World___len__) := ⟨rfl, rfl, rfl, by decide +kernel, rfl, by decide +kernel, by decide +kernel⟩
theorem f_World___len__ {fd : FuncData} (F : FunD K "__len__" "World.__len__" (defArgs s_World___len__) (defBody s_World___len__) (defScope s_World___len__) [] [] (He.fAd K ("World", some "__len__")) fd) (M : MtF K mg "World" "__len__") (B : Bt mg) (T : Xt P w K mg base) : FnI P w K mg base "World" "__len__" 1 1 [] m_World___len__ := by
  have nd := sc_World___len__.nd
  have Q : FnOk P w K mg base (L2.CX P w) 1 (He.fAd K ("World", some "__len__")) fd ["self"] (spM K mg 1 m_World___len__) := by
    refine (fnQ (k := 0) F sc_World___len__ fun cdv A outer s H E hr => ?_)
    have tk : Takes (cxOf (L2.CX P w) P w K mg base N_World___len__ "World.__len__" (defScope s_World___len__) (He.fAd K ("World", some "__len__")) cdv A outer s H E) (fun cls d _ H' => E cls d H') := takes_of rfl rfl rfl rfl
    have pw : PassesOwn (model P w) (cxOf (L2.CX P w) P w K mg base N_World___len__ "World.__len__" (defScope s_World___len__) (He.fAd K ("World", some "__len__")) cdv A outer s H E).A (cxOf (L2.CX P w) P w K mg base N_World___len__ "World.__len__" (defScope s_World___len__) (He.fAd K ("World", some "__len__")) cdv A outer s H E).env (cxOf (L2.CX P w) P w K mg base N_World___len__ "World.__len__" (defScope s_World___len__) (He.fAd K ("World", some "__len__")) cdv A outer s H E).xe := passes_of rfl
    exact (mss_one (ms_ret (me_callB cm_lenD nx_lenD B.len (by decide +kernel) (ma_cons (me_fldI T.fi_things_kept (me_var 0)) ma_nil))))
  exact fnI_of M Q (F.bindsN (fun _ _ _ _ _ _ us hl => match us, hl with | [_], _ => rfl))
abbrev N_World_next_thing : List Str := ["self"]
theorem sc_World_next_thing : FnScope N_World_next_thing ["self"] (defScope s_World_next_thing) := ⟨rfl, rfl, rfl, by decide +kernel, rfl, by decide +kernel, by decide +kernel⟩
theorem f_World_next_thing {fd : FuncData} (F : FunD K "next_thing" "World.next_thing" (defArgs s_World_next_thing) (defBody s_World_next_thing) (defScope s_World_next_thing) [] [] (He.fAd K ("World", some "next_thing")) fd) (M : MtF K mg "World" "next_thing") (B : Bt mg) (T : Xt P w K mg base) : FnI P w K mg base "World" "next_thing" 1 1 [] m_World_next_thing := by
  have nd := sc_World_next_thing.nd
  have Q : FnOk P w K mg base (L2.CX P w) 1 (He.fAd K ("World", some "next_thing")) fd ["self"] (spM K mg 1 m_World_next_thing) := by
    refine (fnQ (k := 0) F sc_World_next_thing fun cdv A outer s H E hr => ?_)
    have tk : Takes (cxOf (L2.CX P w) P w K mg base N_World_next_thing "World.next_thing" (defScope s_World_next_thing) (He.fAd K ("World", some "next_thing")) cdv A outer s H E) (fun cls d _ H' => E cls d H') := takes_of rfl rfl rfl rfl
    have pw : PassesOwn (model P w) (cxOf (L2.CX P w) P w K mg base N_World_next_thing "World.next_thing" (defScope s_World_next_thing) (He.fAd K ("World", some "next_thing")) cdv A outer s H E).A (cxOf (L2.CX P w) P w K mg base N_World_next_thing "World.next_thing" (defScope s_World_next_thing) (He.fAd K ("World", some "next_thing")) cdv A outer s H E).env (cxOf (L2.CX P w) P w K mg base N_World_next_thing "World.next_thing" (defScope s_World_next_thing) (He.fAd K ("World", some "next_thing")) cdv A outer s H E).xe := passes_of rfl
    exact (mss_one (ms_ret (me_fldI T.fi_next_kept (me_var 0))))
  exact fnI_of M Q (F.bindsN (fun _ _ _ _ _ _ us hl => match us, hl with | [_], _ => rfl))
abbrev N_World_things : List Str := ["self"]
theorem sc_World_things : FnScope N_World_things ["self"] (defScope s_World_things) := ⟨rfl, rfl, rfl, by decide +kernel, rfl, by decide +kernel, by decide +kernel⟩
theorem f_World_things {fd : FuncData} (F : FunD K "things" "World.things" (defArgs s_World_things) (defBody s_World_things) (defScope s_World_things) [] [] (He.fAd K ("World", some "things")) fd) (M : MtF K mg "World" "things") (B : Bt mg) (T : Xt P w K mg base) : FnI P w K mg base "World" "things" 1 1 [] m_World_things := by
  have nd := sc_World_things.nd
  have Q : FnOk P w K mg base (L2.CX P w) 1 (He.fAd K ("World", some "things")) fd ["self"] (spM K mg 1 m_World_things) := by
    refine (fnQ (k := 0) F sc_World_things fun cdv A outer s H E hr => ?_)
    have tk : Takes (cxOf (L2.CX P w) P w K mg base N_World_things "World.things" (defScope s_World_things) (He.fAd K ("World", some "things")) cdv A outer s H E) (fun cls d _ H' => E cls d H') := takes_of rfl rfl rfl rfl
    have pw : PassesOwn (model P w) (cxOf (L2.CX P w) P w K mg base N_World_things "World.things" (defScope s_World_things) (He.fAd K ("World", some "things")) cdv A outer s H E).A (cxOf (L2.CX P w) P w K mg base N_World_things "World.things" (defScope s_World_things) (He.fAd K ("World", some "things")) cdv A outer s H E).env (cxOf (L2.CX P w) P w K mg base N_World_things "World.things" (defScope s_World_things) (He.fAd K ("World", some "things")) cdv A outer s H E).xe := passes_of rfl
    exact (mss_one (ms_ret (me_fl (ml_sortD rfl B.sorted (ma_cons (me_fldI T.fi_things_kept (me_var 0)) ma_nil)))))
  exact fnI_of M Q (F.bindsN (fun _ _ _ _ _ _ us hl => match us, hl with | [_], _ => rfl))
abbrev N_World_net_of : List Str := ["self"]
theorem sc_World_net_of : FnScope N_World_net_of ["self"] (defScope s_World_net_of) := ⟨rfl, rfl, rfl, by decide +kernel, rfl, by decide +kernel, by decide +kernel⟩
theorem f_World_net_of {fd : FuncData} (F : FunD K "net_of" "World.net_of" (defArgs s_World_net_of) (defBody s_World_net_of) (defScope s_World_net_of) [] [] (He.fAd K ("World", some "net_of")) fd) (M : MtF K mg "World" "net_of") (B : Bt mg) (T : Xt P w K mg base) : FnI P w K mg base "World" "net_of" 1 1 [] m_World_net_of := by
  have nd := sc_World_net_of.nd
  have Q : FnOk P w K mg base (L2.CX P w) 1 (He.fAd K ("World", some "net_of")) fd ["self"] (spM K mg 1 m_World_net_of) := by
    refine (fnQ (k := 0) F sc_World_net_of fun cdv A outer s H E hr => ?_)
    have tk : Takes (cxOf (L2.CX P w) P w K mg base N_World_net_of "World.net_of" (defScope s_World_net_of) (He.fAd K ("World", some "net_of")) cdv A outer s H E) (fun cls d _ H' => E cls d H') := takes_of rfl rfl rfl rfl
    have pw : PassesOwn (model P w) (cxOf (L2.CX P w) P w K mg base N_World_net_of "World.net_of" (defScope s_World_net_of) (He.fAd K ("World", some "net_of")) cdv A outer s H E).A (cxOf (L2.CX P w) P w K mg base N_World_net_of "World.net_of" (defScope s_World_net_of) (He.fAd K ("World", some "net_of")) cdv A outer s H E).env (cxOf (L2.CX P w) P w K mg base N_World_net_of "World.net_of" (defScope s_World_net_of) (He.fAd K ("World", some "net_of")) cdv A outer s H E).xe := passes_of rfl
    exact (mss_one (ms_ret (me_fldI T.fi_net_kept (me_var 0))))
  exact fnI_of M Q (F.bindsN (fun _ _ _ _ _ _ us hl => match us, hl with | [_], _ => rfl))
abbrev N__law_fresh : List Str := ["world", "net", "garden", "hedge"]
theorem sc__law_fresh : FnScope N__law_fresh ["world", "net"] (defScope s__law_fresh) := ⟨rfl, rfl, rfl, by decide +kernel, rfl, by decide +kernel, by decide +kernel⟩
theorem f__law_fresh {f : Addr} {fd : FuncData} (F : FnP K "_law_fresh" "_law_fresh" s__law_fresh f fd) (hm : mg "_law_fresh" = some (.ref f)) (B : Bt mg) (T : Xt P w K mg base) (G__law_alike : FnM P w K mg base "_law_alike" 2 9 m_law_alike) (G_World_is_cut : FnI P w K mg base "World" "is_cut" 2 2 [] m_World_is_cut) (G_World_rule_of : FnI P w K mg base "World" "rule_of" 2 2 [] m_World_rule_of) (G_World_handles : FnI P w K mg base "World" "handles" 2 2 [] m_World_handles) (G_World_many_handles : FnI P w K mg base "World" "many_handles" 2 2 [] m_World_many_handles) (G_World___len__ : FnI P w K mg base "World" "__len__" 1 1 [] m_World___len__) (G_World_next_thing : FnI P w K mg base "World" "next_thing" 1 1 [] m_World_next_thing) (G_World_things : FnI P w K mg base "World" "things" 1 1 [] m_World_things) (G_World_net_of : FnI P w K mg base "World" "net_of" 1 1 [] m_World_net_of) : FnH P w K mg base "_law_fresh" 2 10 m_law_fresh f fd ["world", "net"] := by
  have nd := sc__law_fresh.nd
  refine (fnH F hm sc__law_fresh (fun _ _ _ _ _ _ us hl => match us, hl with | [_, _], _ => rfl) fun cdv A outer s H E hr => ?_)
  have tk : Takes (cxOf (L2.CX P w) P w K mg base N__law_fresh "_law_fresh" (defScope s__law_fresh) f cdv A outer s H E) (fun cls d _ H' => E cls d H') := takes_of rfl rfl rfl rfl
  have pw : PassesOwn (model P w) (cxOf (L2.CX P w) P w K mg base N__law_fresh "_law_fresh" (defScope s__law_fresh) f cdv A outer s H E).A (cxOf (L2.CX P w) P w K mg base N__law_fresh "_law_fresh" (defScope s__law_fresh) f cdv A outer s H E).env (cxOf (L2.CX P w) P w K mg base N__law_fresh "_law_fresh" (defScope s__law_fresh) f cdv A outer s H E).xe := passes_of rfl
  exact (mss_cons (ms_if (mt_not (mt_val (me_call G__law_alike (hr.mono (by decide)) tk (ma_cons (me_fl (ml_lst (ma_cons (me_meth0 G_World_net_of (hr.mono (by decide)) tk (me_var 0)) (ma_cons (me_meth0 G_World_things (hr.mono (by decide)) tk (me_var 0)) (ma_cons (me_meth0 G_World_next_thing (hr.mono (by decide)) tk (me_var 0)) (ma_cons (me_lenI B.len G_World___len__ (hr.mono (by decide)) tk (me_var 0)) ma_nil)))))) (ma_cons (me_fl (ml_lst (ma_cons (me_var 1) (ma_cons (me_fl (ml_lst ma_nil)) (ma_cons me_int (ma_cons me_int ma_nil)))))) ma_nil))))) (mss_one (ms_ret me_bl)) mss_nil)
  (mss_cons (ms_for pw rfl (mi_range1 B.range (ma_cons (me_ix (me_var 1) me_int) ma_nil)) (mg_name 2 nd) (mss_one (ms_if (mt_not (mt_val (me_call G__law_alike (hr.mono (by decide)) tk (ma_cons (me_tup (ma_cons (me_meth G_World_many_handles (hr.mono (by decide)) tk (me_var 0) (ma_cons (me_var 2) ma_nil)) (ma_cons (me_meth G_World_handles (hr.mono (by decide)) tk (me_var 0) (ma_cons (me_var 2) ma_nil)) ma_nil))) (ma_cons (me_tup (ma_cons me_int (ma_cons (me_fl (ml_lst ma_nil)) ma_nil))) ma_nil))))) (mss_one (ms_ret me_bl)) mss_nil)))
  (mss_cons (ms_for pw rfl (mi_range1 B.range (ma_cons (me_callB cm_len nx_len B.len (by decide +kernel) (ma_cons (me_ix (me_var 1) me_int) ma_nil)) ma_nil)) (mg_name 3 nd) (mss_one (ms_if (mt_not (mt_val (me_call G__law_alike (hr.mono (by decide)) tk (ma_cons (me_tup (ma_cons (me_meth G_World_rule_of (hr.mono (by decide)) tk (me_var 0) (ma_cons (me_var 3) ma_nil)) (ma_cons (me_meth G_World_is_cut (hr.mono (by decide)) tk (me_var 0) (ma_cons (me_var 3) ma_nil)) ma_nil))) (ma_cons (me_tup (ma_cons (me_tup (ma_cons (me_tup (ma_cons me_str (ma_cons me_str (ma_cons me_str ma_nil)))) (ma_cons (me_tup ma_nil) ma_nil))) (ma_cons me_bl ma_nil))) ma_nil))))) (mss_one (ms_ret me_bl)) mss_nil)))
  (mss_one (ms_ret me_bl)))))
abbrev N_Book___init__ : List Str := ["self"]
theorem sc_Book___init__ : FnScope N_Book___init__ ["self"] (defScope s_Book___init__) := ⟨rfl, rfl, rfl, by decide +kernel, rfl, by decide +kernel, by decide +kernel⟩
theorem f_Book___init__ {fd : FuncData} (F : FunD K "__init__" "Book.__init__" (defArgs s_Book___init__) (defBody s_Book___init__) (defScope s_Book___init__) [] [] (He.fAd K ("Book", some "__init__")) fd) (M : MkF K mg "Book") (B : Bt mg) (T : Xt P w K mg base) : FnC P w K mg base "Book" 1 1 m_Book___init__ := by
  have nd := sc_Book___init__.nd
  have Q : FnOk P w K mg base (L2.CX P w) 1 (He.fAd K ("Book", some "__init__")) fd ["self"] (spM K mg 1 m_Book___init__) := by
    refine (fnQ (k := 0) F sc_Book___init__ fun cdv A outer s H E hr => ?_)
    have tk : Takes (cxOf (L2.CX P w) P w K mg base N_Book___init__ "Book.__init__" (defScope s_Book___init__) (He.fAd K ("Book", some "__init__")) cdv A outer s H E) (fun cls d _ H' => E cls d H') := takes_of rfl rfl rfl rfl
    have pw : PassesOwn (model P w) (cxOf (L2.CX P w) P w K mg base N_Book___init__ "Book.__init__" (defScope s_Book___init__) (He.fAd K ("Book", some "__init__")) cdv A outer s H E).A (cxOf (L2.CX P w) P w K mg base N_Book___init__ "Book.__init__" (defScope s_Book___init__) (He.fAd K ("Book", some "__init__")) cdv A outer s H E).env (cxOf (L2.CX P w) P w K mg base N_Book___init__ "Book.__init__" (defScope s_Book___init__) (He.fAd K ("Book", some "__init__")) cdv A outer s H E).xe := passes_of rfl
    exact (mss_cons (ms_setF T.fi_by_number (me_var 0) me_dnewK)
  (mss_cons (ms_setF T.fi_by_seen (me_var 0) me_dnewK)
  (mss_one (ms_setF T.fi_next_number (me_var 0) me_int))))
  exact fnC_of M Q (F.bindsN (fun _ _ _ _ _ _ us hl => match us, hl with | [_], _ => rfl))
abbrev N_is_whole : List Str := ["thing"]
theorem sc_is_whole : FnScope N_is_whole ["thing"] (defScope s_is_whole) := ⟨rfl, rfl, rfl, by decide +kernel, rfl, by decide +kernel, by decide +kernel⟩
theorem f_is_whole {f : Addr} {fd : FuncData} (F : FnP K "is_whole" "is_whole" s_is_whole f fd) (hm : mg "is_whole" = some (.ref f)) (B : Bt mg) (T : Xt P w K mg base) : FnH P w K mg base "is_whole" 1 1 m_is_whole f fd ["thing"] := by
  have nd := sc_is_whole.nd
  refine (fnH F hm sc_is_whole (fun _ _ _ _ _ _ us hl => match us, hl with | [_], _ => rfl) fun cdv A outer s H E hr => ?_)
  have tk : Takes (cxOf (L2.CX P w) P w K mg base N_is_whole "is_whole" (defScope s_is_whole) f cdv A outer s H E) (fun cls d _ H' => E cls d H') := takes_of rfl rfl rfl rfl
  have pw : PassesOwn (model P w) (cxOf (L2.CX P w) P w K mg base N_is_whole "is_whole" (defScope s_is_whole) f cdv A outer s H E).A (cxOf (L2.CX P w) P w K mg base N_is_whole "is_whole" (defScope s_is_whole) f cdv A outer s H E).env (cxOf (L2.CX P w) P w K mg base N_is_whole "is_whole" (defScope s_is_whole) f cdv A outer s H E).xe := passes_of rfl
  exact (mss_one (ms_ret (me_and (me_isi B.isinstance B.int (by decide +kernel) (me_var 0)) (me_one (me_not (me_isi B.isinstance B.bool (by decide +kernel) (me_var 0)))))))
abbrev N_is_hedge : List Str := ["gardens", "thing"]
theorem sc_is_hedge : FnScope N_is_hedge ["gardens", "thing"] (defScope s_is_hedge) := ⟨rfl, rfl, rfl, by decide +kernel, rfl, by decide +kernel, by decide +kernel⟩
theorem f_is_hedge {f : Addr} {fd : FuncData} (F : FnP K "is_hedge" "is_hedge" s_is_hedge f fd) (hm : mg "is_hedge" = some (.ref f)) (B : Bt mg) (T : Xt P w K mg base) (G_is_whole : FnM P w K mg base "is_whole" 1 1 m_is_whole) : FnH P w K mg base "is_hedge" 2 2 m_is_hedge f fd ["gardens", "thing"] := by
  have nd := sc_is_hedge.nd
  refine (fnH F hm sc_is_hedge (fun _ _ _ _ _ _ us hl => match us, hl with | [_, _], _ => rfl) fun cdv A outer s H E hr => ?_)
  have tk : Takes (cxOf (L2.CX P w) P w K mg base N_is_hedge "is_hedge" (defScope s_is_hedge) f cdv A outer s H E) (fun cls d _ H' => E cls d H') := takes_of rfl rfl rfl rfl
  have pw : PassesOwn (model P w) (cxOf (L2.CX P w) P w K mg base N_is_hedge "is_hedge" (defScope s_is_hedge) f cdv A outer s H E).A (cxOf (L2.CX P w) P w K mg base N_is_hedge "is_hedge" (defScope s_is_hedge) f cdv A outer s H E).env (cxOf (L2.CX P w) P w K mg base N_is_hedge "is_hedge" (defScope s_is_hedge) f cdv A outer s H E).xe := passes_of rfl
  exact (mss_cons (ms_if (mt_w (mw_or (mt_not (mt_val (me_isi B.isinstance B.tuple (by decide +kernel) (me_var 1)))) (mw_or (mt_cmp (om_ne hr.units) nx_ne (me_callB cm_len nx_len B.len (by decide +kernel) (ma_cons (me_var 1) ma_nil)) me_int) (mw_or (mt_not (mt_val (me_call G_is_whole (hr.mono (by decide)) tk (ma_cons (me_ix (me_var 1) me_int) ma_nil)))) (mw_or1 (mt_not (mt_val (me_call G_is_whole (hr.mono (by decide)) tk (ma_cons (me_ix (me_var 1) me_int) ma_nil))))))))) (mss_one (ms_ret me_bl)) mss_nil)
  (mss_one (ms_ret (me_and (me_cmp om_le nx_le me_int (me_ix (me_var 1) me_int)) (me_and (me_cmp om_lt nx_cmp (me_ix (me_var 1) me_int) (me_ix (me_var 1) me_int)) (me_one (me_cmp om_lt nx_cmp (me_ix (me_var 1) me_int) (me_var 0))))))))
abbrev N_is_net : List Str := ["thing", "gardens", "hedges", "hedge"]
theorem sc_is_net : FnScope N_is_net ["thing"] (defScope s_is_net) := ⟨rfl, rfl, rfl, by decide +kernel, rfl, by decide +kernel, by decide +kernel⟩
theorem f_is_net {f : Addr} {fd : FuncData} (F : FnP K "is_net" "is_net" s_is_net f fd) (hm : mg "is_net" = some (.ref f)) (B : Bt mg) (T : Xt P w K mg base) (G_is_hedge : FnM P w K mg base "is_hedge" 2 2 m_is_hedge) (G_is_whole : FnM P w K mg base "is_whole" 1 1 m_is_whole) (c_HEDGES : ∃ t, mg "HEDGES" = some (.int 20 t)) (c_GARDENS : ∃ t, mg "GARDENS" = some (.int 12 t)) : FnH P w K mg base "is_net" 1 3 m_is_net f fd ["thing"] := by
  have nd := sc_is_net.nd
  refine (fnH F hm sc_is_net (fun _ _ _ _ _ _ us hl => match us, hl with | [_], _ => rfl) fun cdv A outer s H E hr => ?_)
  have tk : Takes (cxOf (L2.CX P w) P w K mg base N_is_net "is_net" (defScope s_is_net) f cdv A outer s H E) (fun cls d _ H' => E cls d H') := takes_of rfl rfl rfl rfl
  have pw : PassesOwn (model P w) (cxOf (L2.CX P w) P w K mg base N_is_net "is_net" (defScope s_is_net) f cdv A outer s H E).A (cxOf (L2.CX P w) P w K mg base N_is_net "is_net" (defScope s_is_net) f cdv A outer s H E).env (cxOf (L2.CX P w) P w K mg base N_is_net "is_net" (defScope s_is_net) f cdv A outer s H E).xe := passes_of rfl
  exact (mss_cons (ms_if (mt_w (mw_or (mt_not (mt_val (me_isi B.isinstance B.tuple (by decide +kernel) (me_var 0)))) (mw_or (mt_cmp (om_ne hr.units) nx_ne (me_callB cm_len nx_len B.len (by decide +kernel) (ma_cons (me_var 0) ma_nil)) me_int) (mw_or (mt_not (mt_val (me_call G_is_whole (hr.mono (by decide)) tk (ma_cons (me_ix (me_var 0) me_int) ma_nil)))) (mw_or1 (mt_not (mt_val (me_isi B.isinstance B.tuple (by decide +kernel) (me_ix (me_var 0) me_int))))))))) (mss_one (ms_ret me_bl)) mss_nil)
  (mss_cons (ms_asg (me_var 0) (mg_tup rfl (mgs_cons (i := 1) nd (mgs_cons (i := 2) nd mgs_nil))))
  (mss_cons (ms_if (mt_w (mw_or (mt_cmp om_lt nx_cmp (me_var 1) me_int) (mw_or (mt_cmp om_gt nx_cmp (me_var 1) (me_gi c_GARDENS)) (mw_or1 (mt_cmp om_gt nx_cmp (me_callB cm_len nx_len B.len (by decide +kernel) (ma_cons (me_var 2) ma_nil)) (me_gi c_HEDGES)))))) (mss_one (ms_ret me_bl)) mss_nil)
  (mss_one (ms_ret (me_callB (cm_all rfl) nx_all B.all (by decide +kernel) (ma_cons (me_fl (ml_lc (own := [("hedge", 3)]) (t := (.nm 3)) rfl nd (mi_val (me_var 2)) (blkOk_by (N := N_is_net) (sc := defScope s_is_net) (by decide +kernel)) rfl (fun _ _ _ _ _ => (mg_name 3 nd)) (fun _ _ _ _ _ => mts_nil) (fun _ _ _ _ _ => (me_call G_is_hedge (hr.mono (by decide)) takes0 (ma_cons (me_var 1) (ma_cons (me_var 3) ma_nil)))))) ma_nil)))))))
abbrev N_World___init__ : List Str := ["self", "net", "hedge", "garden"]
theorem sc_World___init__ : FnScope N_World___init__ ["self", "net"] (defScope s_World___init__) := ⟨rfl, rfl, rfl, by decide +kernel, rfl, by decide +kernel, by decide +kernel⟩
theorem f_World___init__ {fd : FuncData} (F : FunD K "__init__" "World.__init__" (defArgs s_World___init__) (defBody s_World___init__) (defScope s_World___init__) [] [] (He.fAd K ("World", some "__init__")) fd) (M : MkF K mg "World") (B : Bt mg) (T : Xt P w K mg base) (G_Book___init__ : FnC P w K mg base "Book" 1 1 m_Book___init__) (G_is_net : FnM P w K mg base "is_net" 1 3 m_is_net) : FnC P w K mg base "World" 2 4 m_World___init__ := by
  have nd := sc_World___init__.nd
  have Q : FnOk P w K mg base (L2.CX P w) 4 (He.fAd K ("World", some "__init__")) fd ["self", "net"] (spM K mg 2 m_World___init__) := by
    refine (fnQ (k := 3) F sc_World___init__ fun cdv A outer s H E hr => ?_)
    have tk : Takes (cxOf (L2.CX P w) P w K mg base N_World___init__ "World.__init__" (defScope s_World___init__) (He.fAd K ("World", some "__init__")) cdv A outer s H E) (fun cls d _ H' => E cls d H') := takes_of rfl rfl rfl rfl
    have pw : PassesOwn (model P w) (cxOf (L2.CX P w) P w K mg base N_World___init__ "World.__init__" (defScope s_World___init__) (He.fAd K ("World", some "__init__")) cdv A outer s H E).A (cxOf (L2.CX P w) P w K mg base N_World___init__ "World.__init__" (defScope s_World___init__) (He.fAd K ("World", some "__init__")) cdv A outer s H E).env (cxOf (L2.CX P w) P w K mg base N_World___init__ "World.__init__" (defScope s_World___init__) (He.fAd K ("World", some "__init__")) cdv A outer s H E).xe := passes_of rfl
    exact (mss_cons (ms_if (mt_not (mt_val (me_call G_is_net (hr.mono (by decide)) tk (ma_cons (me_var 1) ma_nil)))) (mss_one (ms_raise tk T.x_NoNet)) mss_nil)
  (mss_cons (ms_setF T.fi_net_kept (me_var 0) (me_var 1))
  (mss_cons (ms_setF T.fi_rules_kept (me_var 0) (me_al (ml_lc (own := [("hedge", 2)]) (t := (.nm 2)) rfl nd (mi_val (me_ix (me_var 1) me_int)) (blkOk_by (N := N_World___init__) (sc := defScope s_World___init__) (by decide +kernel)) rfl (fun _ _ _ _ _ => (mg_name 2 nd)) (fun _ _ _ _ _ => mts_nil) (fun _ _ _ _ _ => (me_tup (ma_cons (me_gt (x := "WORDS") (zs := ["look", "put", "call"]) T.tc_WORDS) (ma_cons (me_tup ma_nil) ma_nil)))))))
  (mss_cons (ms_setF T.fi_cuts_kept (me_var 0) (me_al (ml_lc (own := [("hedge", 2)]) (t := (.nm 2)) rfl nd (mi_val (me_ix (me_var 1) me_int)) (blkOk_by (N := N_World___init__) (sc := defScope s_World___init__) (by decide +kernel)) rfl (fun _ _ _ _ _ => (mg_name 2 nd)) (fun _ _ _ _ _ => mts_nil) (fun _ _ _ _ _ => me_bl))))
  (mss_cons (ms_setF T.fi_things_kept (me_var 0) me_dnewK)
  (mss_cons (ms_setF T.fi_next_kept (me_var 0) me_int)
  (mss_one (ms_setF T.fi_books (me_var 0) (me_fl (ml_lc (own := [("garden", 3)]) (t := (.nm 3)) rfl nd (mi_range1 B.range (ma_cons (me_ix (me_var 1) me_int) ma_nil)) (blkOk_by (N := N_World___init__) (sc := defScope s_World___init__) (by decide +kernel)) rfl (fun _ _ _ _ _ => (mg_name 3 nd)) (fun _ _ _ _ _ => mts_nil) (fun _ _ _ _ _ => (me_make0 G_Book___init__ (hr.mono (by decide)) takes0))))))))))))
  exact fnC_of M Q (F.bindsN (fun _ _ _ _ _ _ us hl => match us, hl with | [_, _], _ => rfl))
abbrev N__law_made : List Str := ["thing", "world", "caught", "e"]
theorem sc__law_made : FnScope N__law_made ["thing"] (defScope s__law_made) := ⟨rfl, rfl, rfl, by decide +kernel, rfl, by decide +kernel, by decide +kernel⟩
theorem f__law_made {f : Addr} {fd : FuncData} (F : FnP K "_law_made" "_law_made" s__law_made f fd) (hm : mg "_law_made" = some (.ref f)) (B : Bt mg) (T : Xt P w K mg base) (G_World___init__ : FnC P w K mg base "World" 2 4 m_World___init__) : FnH P w K mg base "_law_made" 1 6 m_law_made_k16 f fd ["thing"] := by
  have nd := sc__law_made.nd
  refine (fnH F hm sc__law_made (fun _ _ _ _ _ _ us hl => match us, hl with | [_], _ => rfl) fun cdv A outer s H E hr => ?_)
  have tk : Takes (cxOf (L2.CX P w) P w K mg base N__law_made "_law_made" (defScope s__law_made) f cdv A outer s H E) (fun cls d _ H' => E cls d H') := takes_of rfl rfl rfl rfl
  have pw : PassesOwn (model P w) (cxOf (L2.CX P w) P w K mg base N__law_made "_law_made" (defScope s__law_made) f cdv A outer s H E).A (cxOf (L2.CX P w) P w K mg base N__law_made "_law_made" (defScope s__law_made) f cdv A outer s H E).env (cxOf (L2.CX P w) P w K mg base N__law_made "_law_made" (defScope s__law_made) f cdv A outer s H E).xe := passes_of rfl
  exact (mss_cons (ms_set (i := 1) nd me_non)
  (mss_cons (ms_set (i := 2) nd me_non)
  (mss_cons (ms_try tk nd (fun _ _ _ tk pw => (mss_one (ms_set (i := 1) nd (me_make G_World___init__ (hr.mono (by decide)) tk (ma_cons (me_var 0) ma_nil))))) (hds_named T.tl_HedgeError_NoNet__ (fun _ _ => (mss_one (ms_set (i := 2) nd (me_var 3)))) HdsM.nil) mss_nil)
  (mss_cons (ms_if (mt_cmp om_is nx_is (me_var 2) me_non) (mss_one (ms_ret (me_tup (ma_cons (me_var 1) (ma_cons me_bl ma_nil))))) mss_nil)
  (mss_cons (ms_if (mt_val (me_isXs B.isinstance T.is_Cut_NoField_NoGarden_NoHandle_NoHedge_NoName_NoRule_NoText_NoValue_NoWalk_Shut (pa_cons (pe_own (T.is_Cut_NoField_NoGarden_NoHandle_NoHedge_NoName_NoRule_NoText_NoValue_NoWalk_Shut.g "Cut" (by decide))) (pa_cons (pe_own (T.is_Cut_NoField_NoGarden_NoHandle_NoHedge_NoName_NoRule_NoText_NoValue_NoWalk_Shut.g "NoField" (by decide))) (pa_cons (pe_own (T.is_Cut_NoField_NoGarden_NoHandle_NoHedge_NoName_NoRule_NoText_NoValue_NoWalk_Shut.g "NoGarden" (by decide))) (pa_cons (pe_own (T.is_Cut_NoField_NoGarden_NoHandle_NoHedge_NoName_NoRule_NoText_NoValue_NoWalk_Shut.g "NoHandle" (by decide))) (pa_cons (pe_own (T.is_Cut_NoField_NoGarden_NoHandle_NoHedge_NoName_NoRule_NoText_NoValue_NoWalk_Shut.g "NoHedge" (by decide))) (pa_cons (pe_own (T.is_Cut_NoField_NoGarden_NoHandle_NoHedge_NoName_NoRule_NoText_NoValue_NoWalk_Shut.g "NoName" (by decide))) (pa_cons (pe_own (T.is_Cut_NoField_NoGarden_NoHandle_NoHedge_NoName_NoRule_NoText_NoValue_NoWalk_Shut.g "NoRule" (by decide))) (pa_cons (pe_own (T.is_Cut_NoField_NoGarden_NoHandle_NoHedge_NoName_NoRule_NoText_NoValue_NoWalk_Shut.g "NoText" (by decide))) (pa_cons (pe_own (T.is_Cut_NoField_NoGarden_NoHandle_NoHedge_NoName_NoRule_NoText_NoValue_NoWalk_Shut.g "NoValue" (by decide))) (pa_cons (pe_own (T.is_Cut_NoField_NoGarden_NoHandle_NoHedge_NoName_NoRule_NoText_NoValue_NoWalk_Shut.g "NoWalk" (by decide))) (pa_cons (pe_own (T.is_Cut_NoField_NoGarden_NoHandle_NoHedge_NoName_NoRule_NoText_NoValue_NoWalk_Shut.g "Shut" (by decide))) pa_nil))))))))))) (fun _ _ _ q => q) (me_var 2))) (mss_one (ms_ret (me_tup (ma_cons me_non (ma_cons me_bl ma_nil))))) mss_nil)
  (mss_one (ms_ret (me_tup (ma_cons me_non (ma_cons (me_and (me_isXo B.isinstance T.is_NoNet (me_var 2)) (me_one (me_isXb B.isinstance B.ValueError (by decide +kernel) T.is_ValueError (me_var 2)))) ma_nil))))))))))
abbrev N__law_draw : List Str := ["bag", "many", "found"]
theorem sc__law_draw : FnScope N__law_draw ["bag", "many"] (defScope s__law_draw) := ⟨rfl, rfl, rfl, by decide +kernel, rfl, by decide +kernel, by decide +kernel⟩
theorem f__law_draw {f : Addr} {fd : FuncData} (F : FnP K "_law_draw" "_law_draw" s__law_draw f fd) (hm : mg "_law_draw" = some (.ref f)) (B : Bt mg) (T : Xt P w K mg base) : FnH P w K mg base "_law_draw" 2 1 m_law_draw f fd ["bag", "many"] := by
  have nd := sc__law_draw.nd
  refine (fnH F hm sc__law_draw (fun _ _ _ _ _ _ us hl => match us, hl with | [_, _], _ => rfl) fun cdv A outer s H E hr => ?_)
  have tk : Takes (cxOf (L2.CX P w) P w K mg base N__law_draw "_law_draw" (defScope s__law_draw) f cdv A outer s H E) (fun cls d _ H' => E cls d H') := takes_of rfl rfl rfl rfl
  have pw : PassesOwn (model P w) (cxOf (L2.CX P w) P w K mg base N__law_draw "_law_draw" (defScope s__law_draw) f cdv A outer s H E).A (cxOf (L2.CX P w) P w K mg base N__law_draw "_law_draw" (defScope s__law_draw) f cdv A outer s H E).env (cxOf (L2.CX P w) P w K mg base N__law_draw "_law_draw" (defScope s__law_draw) f cdv A outer s H E).xe := passes_of rfl
  exact (mss_cons (ms_if (mt_cmp om_gt nx_cmp (me_ix (me_var 0) me_int) me_int) (mss_cons (ms_set (i := 2) nd (me_op om_mod nx_mod (me_ix (me_var 0) me_int) (me_var 1)))
  (mss_cons (ms_setIx (me_var 0) me_int (me_op om_fdiv nx_fdiv (me_ix (me_var 0) me_int) (me_var 1)))
  (mss_one (ms_ret (me_var 2))))) mss_nil)
  (mss_cons (ms_setIx (me_var 0) me_int (me_op om_add nx_add (me_ix (me_var 0) me_int) me_int))
  (mss_cons (ms_setIx (me_var 0) me_int (me_op om_mod nx_mod (me_op om_pow nx_pow (me_op om_add nx_add (me_ix (me_var 0) me_int) (me_op om_mul nx_mul me_int (me_ix (me_var 0) me_int))) me_int) me_int))
  (mss_one (ms_ret (me_op om_mod nx_mod (me_op om_fdiv nx_fdiv (me_ix (me_var 0) me_int) me_int) (me_var 1)))))))
abbrev N__law_spoilt : List Str := ["bag", "net", "way", "odd", "hedge", "some", "many", "hedges"]
theorem sc__law_spoilt : FnScope N__law_spoilt ["bag", "net"] (defScope s__law_spoilt) := ⟨rfl, rfl, rfl, by decide +kernel, rfl, by decide +kernel, by decide +kernel⟩
theorem f__law_spoilt {f : Addr} {fd : FuncData} (F : FnP K "_law_spoilt" "_law_spoilt" s__law_spoilt f fd) (hm : mg "_law_spoilt" = some (.ref f)) (B : Bt mg) (T : Xt P w K mg base) (G__law_draw : FnM P w K mg base "_law_draw" 2 1 m_law_draw) : FnH P w K mg base "_law_spoilt" 2 2 m_law_spoilt_k16 f fd ["bag", "net"] := by
  have nd := sc__law_spoilt.nd
  refine (fnH F hm sc__law_spoilt (fun _ _ _ _ _ _ us hl => match us, hl with | [_, _], _ => rfl) fun cdv A outer s H E hr => ?_)
  have tk : Takes (cxOf (L2.CX P w) P w K mg base N__law_spoilt "_law_spoilt" (defScope s__law_spoilt) f cdv A outer s H E) (fun cls d _ H' => E cls d H') := takes_of rfl rfl rfl rfl
  have pw : PassesOwn (model P w) (cxOf (L2.CX P w) P w K mg base N__law_spoilt "_law_spoilt" (defScope s__law_spoilt) f cdv A outer s H E).A (cxOf (L2.CX P w) P w K mg base N__law_spoilt "_law_spoilt" (defScope s__law_spoilt) f cdv A outer s H E).env (cxOf (L2.CX P w) P w K mg base N__law_spoilt "_law_spoilt" (defScope s__law_spoilt) f cdv A outer s H E).xe := passes_of rfl
  exact (mss_cons (ms_asg (me_var 1) (mg_tup rfl (mgs_cons (i := 6) nd (mgs_cons (i := 7) nd mgs_nil))))
  (mss_cons (ms_set (i := 2) nd (me_call G__law_draw (hr.mono (by decide)) tk (ma_cons (me_var 0) (ma_cons me_int ma_nil))))
  (mss_cons (ms_set (i := 3) nd (me_ix (me_fl (ml_lst (ma_cons me_bl (ma_cons me_non (ma_cons me_str (ma_cons (me_op om_pow nx_pow me_int me_int) (ma_cons (me_neg me_int) (ma_cons me_int (ma_cons me_int (ma_cons (me_tup (ma_cons me_int ma_nil)) ma_nil)))))))))) (me_call G__law_draw (hr.mono (by decide)) tk (ma_cons (me_var 0) (ma_cons me_int ma_nil)))))
  (mss_cons (ms_if (mt_cmp om_lt nx_cmp (me_var 2) me_int) (mss_one (ms_ret (me_var 1))) mss_nil)
  (mss_cons (ms_if (mt_cmp (om_eq hr.units) nx_eq (me_var 2) me_int) (mss_one (ms_ret (me_tup (ma_cons (me_var 3) (ma_cons (me_var 7) ma_nil))))) mss_nil)
  (mss_cons (ms_if (mt_cmp (om_eq hr.units) nx_eq (me_var 2) me_int) (mss_one (ms_ret (me_tup (ma_cons (me_var 6) (ma_cons (me_fl (ml_list B.list (ma_cons (me_var 7) ma_nil))) ma_nil))))) mss_nil)
  (mss_cons (ms_if (mt_cmp (om_eq hr.units) nx_eq (me_var 2) me_int) (mss_one (ms_ret (me_tup (ma_cons me_int (ma_cons (me_op om_add nx_add (me_var 7) (me_op om_mul nx_mul (me_tup (ma_cons (me_tup (ma_cons me_int (ma_cons me_int ma_nil))) ma_nil)) (me_op om_sub nx_sub me_int (me_callB cm_len nx_len B.len (by decide +kernel) (ma_cons (me_var 7) ma_nil))))) ma_nil))))) mss_nil)
  (mss_cons (ms_if (mt_cmp (om_eq hr.units) nx_eq (me_var 2) me_int) (mss_one (ms_ret (me_ix (me_fl (ml_lst (ma_cons (me_fl (ml_list B.list (ma_cons (me_var 1) ma_nil))) (ma_cons (me_var 6) (ma_cons (me_var 7) (ma_cons me_non (ma_cons (me_tup ma_nil) (ma_cons (me_tup (ma_cons (me_var 6) ma_nil)) (ma_cons (me_tup (ma_cons (me_var 6) (ma_cons (me_var 7) (ma_cons (me_tup ma_nil) ma_nil)))) (ma_cons me_str (ma_cons me_dnewK ma_nil))))))))))) (me_call G__law_draw (hr.mono (by decide)) tk (ma_cons (me_var 0) (ma_cons me_int ma_nil)))))) mss_nil)
  (mss_cons (ms_set (i := 4) nd (me_tup (ma_cons me_int (ma_cons me_int ma_nil))))
  (mss_cons (ms_if (mt_cmp (om_ne hr.units) nx_ne (me_var 7) (me_tup ma_nil)) (mss_one (ms_set (i := 4) nd (me_ix (me_var 7) (me_call G__law_draw (hr.mono (by decide)) tk (ma_cons (me_var 0) (ma_cons (me_callB cm_len nx_len B.len (by decide +kernel) (ma_cons (me_var 7) ma_nil)) ma_nil)))))) mss_nil)
  (mss_cons (ms_set (i := 5) nd (me_fl (ml_lst (ma_cons (me_rev (me_var 4)) (ma_cons (me_tup (ma_cons (me_ix (me_var 4) me_int) (ma_cons (me_ix (me_var 4) me_int) ma_nil))) (ma_cons (me_tup (ma_cons (me_ix (me_var 4) me_int) (ma_cons (me_var 6) ma_nil))) (ma_cons (me_tup (ma_cons (me_neg me_int) (ma_cons (me_ix (me_var 4) me_int) ma_nil))) (ma_cons (me_op om_add nx_add (me_var 4) (me_tup (ma_cons me_int ma_nil))) (ma_cons (me_sl (me_var 4) mpo_none (mpo_some me_int)) (ma_cons (me_fl (ml_list B.list (ma_cons (me_var 4) ma_nil))) ma_nil))))))))))
  (mss_cons (ms_set (i := 5) nd (me_op om_add nx_add (me_var 5) (me_fl (ml_lst (ma_cons (me_tup (ma_cons (me_ix (me_var 4) me_int) (ma_cons (me_var 3) ma_nil))) (ma_cons (me_tup (ma_cons (me_var 3) (ma_cons (me_ix (me_var 4) me_int) ma_nil))) (ma_cons me_non (ma_cons me_int (ma_cons (me_var 4) ma_nil)))))))))
  (mss_one (ms_ret (me_tup (ma_cons (me_var 6) (ma_cons (me_op om_add nx_add (me_var 7) (me_tup (ma_cons (me_ix (me_var 5) (me_call G__law_draw (hr.mono (by decide)) tk (ma_cons (me_var 0) (ma_cons me_int ma_nil)))) ma_nil))) ma_nil)))))))))))))))))
abbrev N__law_net : List Str := ["bag", "many", "count", "hedges", "k", "one"]
theorem sc__law_net : FnScope N__law_net ["bag"] (defScope s__law_net) := ⟨rfl, rfl, rfl, by decide +kernel, rfl, by decide +kernel, by decide +kernel⟩
theorem f__law_net {f : Addr} {fd : FuncData} (F : FnP K "_law_net" "_law_net" s__law_net f fd) (hm : mg "_law_net" = some (.ref f)) (B : Bt mg) (T : Xt P w K mg base) (G__law_draw : FnM P w K mg base "_law_draw" 2 1 m_law_draw) : FnH P w K mg base "_law_net" 1 2 m_law_net_k16 f fd ["bag"] := by
  have nd := sc__law_net.nd
  refine FnH.dropped (fnH F hm sc__law_net (fun _ _ _ _ _ _ us hl => match us, hl with | [_], _ => rfl) fun cdv A outer s H E hr => ?_)
  have tk : Takes (cxOf (L2.CX P w) P w K mg base N__law_net "_law_net" (defScope s__law_net) f cdv A outer s H E) (fun cls d _ H' => E cls d H') := takes_of rfl rfl rfl rfl
  have pw : PassesOwn (model P w) (cxOf (L2.CX P w) P w K mg base N__law_net "_law_net" (defScope s__law_net) f cdv A outer s H E).A (cxOf (L2.CX P w) P w K mg base N__law_net "_law_net" (defScope s__law_net) f cdv A outer s H E).env (cxOf (L2.CX P w) P w K mg base N__law_net "_law_net" (defScope s__law_net) f cdv A outer s H E).xe := passes_of rfl
  exact (mss_cons (ms_set (i := 1) nd (me_op om_add nx_add me_int (me_call G__law_draw (hr.mono (by decide)) tk (ma_cons (me_var 0) (ma_cons me_int ma_nil)))))
  (mss_cons (ms_set (i := 2) nd (me_call G__law_draw (hr.mono (by decide)) tk (ma_cons (me_var 0) (ma_cons me_int ma_nil))))
  (mss_cons (ms_if (mt_cmp (om_eq hr.units) nx_eq (me_call G__law_draw (hr.mono (by decide)) tk (ma_cons (me_var 0) (ma_cons me_int ma_nil))) me_int) (mss_cons (ms_set (i := 1) nd me_int)
  (mss_one (ms_set (i := 2) nd me_int))) mss_nil)
  (mss_cons (ms_set (i := 3) nd (me_al (ml_lst ma_nil)))
  (mss_cons (ms_for pw rfl (mi_range1 B.range (ma_cons (me_op om_mul nx_mul (me_var 2) (me_callTy cm_int nx_int B.int (by decide +kernel) (ma_cons (me_cmp om_gt nx_cmp (me_var 1) me_int) ma_nil))) ma_nil)) (mg_name 4 nd) (mss_cons (ms_set (i := 5) nd (me_call G__law_draw (hr.mono (by decide)) tk (ma_cons (me_var 0) (ma_cons (me_op om_sub nx_sub (me_var 1) me_int) ma_nil))))
  (mss_one (ms_expr (me_append (me_var 3) (me_tup (ma_cons (me_var 5) (ma_cons (me_op om_add nx_add (me_op om_add nx_add (me_var 5) me_int) (me_call G__law_draw (hr.mono (by decide)) tk (ma_cons (me_var 0) (ma_cons (me_op om_sub nx_sub (me_op om_sub nx_sub (me_var 1) me_int) (me_var 5)) ma_nil)))) ma_nil))))))))
  (mss_one (ms_ret (me_tup (ma_cons (me_var 1) (ma_cons (me_callTy cm_tup nx_tup B.tuple (by decide +kernel) (ma_cons (me_var 3) ma_nil)) ma_nil))))))))))
abbrev N__law_bag : List Str := ["seed", "place", "start"]
theorem sc__law_bag : FnScope N__law_bag ["seed", "place"] (defScope s__law_bag) := ⟨rfl, rfl, rfl, by decide +kernel, rfl, by decide +kernel, by decide +kernel⟩
theorem f__law_bag {f : Addr} {fd : FuncData} (F : FnP K "_law_bag" "_law_bag" s__law_bag f fd) (hm : mg "_law_bag" = some (.ref f)) (B : Bt mg) (T : Xt P w K mg base) : FnH P w K mg base "_law_bag" 2 1 m_law_bag f fd ["seed", "place"] := by
  have nd := sc__law_bag.nd
  refine (fnH F hm sc__law_bag (fun _ _ _ _ _ _ us hl => match us, hl with | [_, _], _ => rfl) fun cdv A outer s H E hr => ?_)
  have tk : Takes (cxOf (L2.CX P w) P w K mg base N__law_bag "_law_bag" (defScope s__law_bag) f cdv A outer s H E) (fun cls d _ H' => E cls d H') := takes_of rfl rfl rfl rfl
  have pw : PassesOwn (model P w) (cxOf (L2.CX P w) P w K mg base N__law_bag "_law_bag" (defScope s__law_bag) f cdv A outer s H E).A (cxOf (L2.CX P w) P w K mg base N__law_bag "_law_bag" (defScope s__law_bag) f cdv A outer s H E).env (cxOf (L2.CX P w) P w K mg base N__law_bag "_law_bag" (defScope s__law_bag) f cdv A outer s H E).xe := passes_of rfl
  exact (mss_cons (ms_set (i := 2) nd (me_op om_mod nx_mod (me_op om_add nx_add (me_op om_mul nx_mul (me_op om_mod nx_mod (me_var 0) me_int) me_int) (me_op om_mul nx_mul me_int (me_op om_pow nx_pow (me_op om_add nx_add (me_var 1) me_int) me_int))) me_int))
  (mss_one (ms_ret (me_al (ml_lst (ma_cons (me_callB (cm_max rfl) nx_max B.max (by decide +kernel) (ma_cons me_int (ma_cons (me_op om_sub nx_sub (me_var 0) (me_op om_pow nx_pow me_int me_int)) ma_nil))) (ma_cons (me_var 2) (ma_cons (me_var 1) ma_nil))))))))
abbrev N_law : List Str := ["script", "k", "seed", "bag", "thing", "world", "refused"]
theorem sc_law : FnScope N_law ["script"] (defScope s_law) := ⟨rfl, rfl, rfl, by decide +kernel, rfl, by decide +kernel, by decide +kernel⟩
theorem f_law {f : Addr} {fd : FuncData} (F : FnP K "law" "law" s_law f fd) (hm : mg "law" = some (.ref f)) (B : Bt mg) (T : Xt P w K mg base) (G__law_good : FnM P w K mg base "_law_good" 1 1 m_law_good_k16) (G__law_fresh : FnM P w K mg base "_law_fresh" 2 10 m_law_fresh) (G__law_made : FnM P w K mg base "_law_made" 1 6 m_law_made_k16) (G__law_spoilt : FnM P w K mg base "_law_spoilt" 2 2 m_law_spoilt_k16) (G__law_net : FnM P w K mg base "_law_net" 1 2 m_law_net_k16) (G__law_bag : FnM P w K mg base "_law_bag" 2 1 m_law_bag) : FnH P w K mg base "law" 1 11 m_law_k16 f fd ["script"] := by
  have nd := sc_law.nd
  refine FnH.dropped (fnH F hm sc_law (fun _ _ _ _ _ _ us hl => match us, hl with | [_], _ => rfl) fun cdv A outer s H E hr => ?_)
  have tk : Takes (cxOf (L2.CX P w) P w K mg base N_law "law" (defScope s_law) f cdv A outer s H E) (fun cls d _ H' => E cls d H') := takes_of rfl rfl rfl rfl
  have pw : PassesOwn (model P w) (cxOf (L2.CX P w) P w K mg base N_law "law" (defScope s_law) f cdv A outer s H E).A (cxOf (L2.CX P w) P w K mg base N_law "law" (defScope s_law) f cdv A outer s H E).env (cxOf (L2.CX P w) P w K mg base N_law "law" (defScope s_law) f cdv A outer s H E).xe := passes_of rfl
  exact (mss_cons (ms_for pw rfl (mi_enum B.enumerate (ma_cons (me_op om_add nx_add (me_fl (ml_lst (ma_cons (me_callB cm_len nx_len B.len (by decide +kernel) (ma_cons (me_var 0) ma_nil)) ma_nil))) (me_sl (me_var 0) mpo_none (mpo_some me_int))) ma_nil)) (mg_tup rfl (mgs_cons (i := 1) nd (mgs_cons (i := 2) nd mgs_nil))) (mss_cons (ms_set (i := 3) nd (me_call G__law_bag (hr.mono (by decide)) tk (ma_cons (me_var 2) (ma_cons (me_var 1) ma_nil))))
  (mss_cons (ms_set (i := 4) nd (me_call G__law_spoilt (hr.mono (by decide)) tk (ma_cons (me_var 3) (ma_cons (me_call G__law_net (hr.mono (by decide)) tk (ma_cons (me_var 3) ma_nil)) ma_nil))))
  (mss_cons (ms_asg (me_call G__law_made (hr.mono (by decide)) tk (ma_cons (me_var 4) ma_nil)) (mg_tup rfl (mgs_cons (i := 5) nd (mgs_cons (i := 6) nd mgs_nil))))
  (mss_one (ms_if (mt_val (me_call G__law_good (hr.mono (by decide)) tk (ma_cons (me_var 4) ma_nil))) (mss_one (ms_if (mt_w (mw_or (mt_cmp om_is nx_is (me_var 5) me_non) (mw_or1 (mt_not (mt_val (me_call G__law_fresh (hr.mono (by decide)) tk (ma_cons (me_var 5) (ma_cons (me_var 4) ma_nil)))))))) (mss_one (ms_ret me_bl)) mss_nil)) (mss_one (ms_if (mt_not (mt_val (me_var 6))) (mss_one (ms_ret me_bl)) mss_nil))))))))
  (mss_one (ms_ret me_bl)))
end
theorem facts {P : Program} {w : World} {K : PySem.W.Frag} {h : Heap} {mg : Str → Option Value} {f : Addr} (X : K.In h) (G : h.Ns mainGlobals mg) (hfa : mg ("law" : Str) = some (.ref f)) (cx : SaysN fa fn (exAll exs) tabs w K) :
    ∃ fd : FuncData, (∀ (s : Shared) (v : Value), BindsTo s fd ⟨[v], []⟩ [("script", v)]) ∧ ∀ base : Heap, K.In base → base.Ns mainGlobals mg → FnOk P w K mg base (L2.CX P w) 11 f fd ["script"] (spM K mg 1 m_law_k16) := by
  have c : He.SaysD fa fn K := cx.d
  obtain ⟨fd_0, F__law_good⟩ := c.def_ 0 (d := d__law_good) rfl
  obtain ⟨fd_1, F__law_alike⟩ := c.def_ 1 (d := d__law_alike) rfl
  obtain ⟨fd_2, F_World_hedge_known⟩ := c.def_ 2 (d := d_World_hedge_known) rfl
  obtain ⟨fd_3, F_World_is_cut⟩ := c.def_ 3 (d := d_World_is_cut) rfl
  obtain ⟨fd_4, F_World_rule_of⟩ := c.def_ 4 (d := d_World_rule_of) rfl
  obtain ⟨fd_5, F_World_book_of⟩ := c.def_ 5 (d := d_World_book_of) rfl
  obtain ⟨fd_6, F_World_handles⟩ := c.def_ 6 (d := d_World_handles) rfl
  obtain ⟨fd_7, F_World_many_handles⟩ := c.def_ 7 (d := d_World_many_handles) rfl
  obtain ⟨fd_8, F_World___len__⟩ := c.def_ 8 (d := d_World___len__) rfl
  obtain ⟨fd_9, F_World_next_thing⟩ := c.def_ 9 (d := d_World_next_thing) rfl
  obtain ⟨fd_10, F_World_things⟩ := c.def_ 10 (d := d_World_things) rfl
  obtain ⟨fd_11, F_World_net_of⟩ := c.def_ 11 (d := d_World_net_of) rfl
  obtain ⟨fd_12, F__law_fresh⟩ := c.def_ 12 (d := d__law_fresh) rfl
  obtain ⟨fd_13, F_Book___init__⟩ := c.def_ 13 (d := d_Book___init__) rfl
  obtain ⟨fd_14, F_is_whole⟩ := c.def_ 14 (d := d_is_whole) rfl
  obtain ⟨fd_15, F_is_hedge⟩ := c.def_ 15 (d := d_is_hedge) rfl
  obtain ⟨fd_16, F_is_net⟩ := c.def_ 16 (d := d_is_net) rfl
  obtain ⟨fd_17, F_World___init__⟩ := c.def_ 17 (d := d_World___init__) rfl
  obtain ⟨fd_18, F__law_made⟩ := c.def_ 18 (d := d__law_made) rfl
  obtain ⟨fd_19, F__law_draw⟩ := c.def_ 19 (d := d__law_draw) rfl
  obtain ⟨fd_20, F__law_spoilt⟩ := c.def_ 20 (d := d__law_spoilt) rfl
  obtain ⟨fd_21, F__law_net⟩ := c.def_ 21 (d := d__law_net) rfl
  obtain ⟨fd_22, F__law_bag⟩ := c.def_ 22 (d := d__law_bag) rfl
  obtain ⟨fd_23, F_law⟩ := c.def_ 23 (d := d_law) rfl
  have g__law_good := He.glo_ok X G (c.fact 0 (f := .glo "_law_good") rfl)
  have g__law_alike := He.glo_ok X G (c.fact 1 (f := .glo "_law_alike") rfl)
  have g__law_fresh := He.glo_ok X G (c.fact 2 (f := .glo "_law_fresh") rfl)
  have g_is_whole := He.glo_ok X G (c.fact 3 (f := .glo "is_whole") rfl)
  have g_is_hedge := He.glo_ok X G (c.fact 4 (f := .glo "is_hedge") rfl)
  have g_is_net := He.glo_ok X G (c.fact 5 (f := .glo "is_net") rfl)
  have g__law_made := He.glo_ok X G (c.fact 6 (f := .glo "_law_made") rfl)
  have g__law_draw := He.glo_ok X G (c.fact 7 (f := .glo "_law_draw") rfl)
  have g__law_spoilt := He.glo_ok X G (c.fact 8 (f := .glo "_law_spoilt") rfl)
  have g__law_net := He.glo_ok X G (c.fact 9 (f := .glo "_law_net") rfl)
  have g__law_bag := He.glo_ok X G (c.fact 10 (f := .glo "_law_bag") rfl)
  have g_law := He.glo_ok X G (c.fact 11 (f := .glo "law") rfl)
  have B : Bt mg := ⟨He.free_ok X G (c.fact 12 (f := .free "ValueError") rfl), He.free_ok X G (c.fact 13 (f := .free "all") rfl), He.free_ok X G (c.fact 14 (f := .free "bool") rfl), He.free_ok X G (c.fact 15 (f := .free "enumerate") rfl), He.free_ok X G (c.fact 16 (f := .free "int") rfl), He.free_ok X G (c.fact 17 (f := .free "isinstance") rfl), He.free_ok X G (c.fact 18 (f := .free "len") rfl), He.free_ok X G (c.fact 19 (f := .free "list") rfl), He.free_ok X G (c.fact 20 (f := .free "max") rfl), He.free_ok X G (c.fact 21 (f := .free "range") rfl), He.free_ok X G (c.fact 22 (f := .free "sorted") rfl), He.free_ok X G (c.fact 23 (f := .free "str") rfl), He.free_ok X G (c.fact 24 (f := .free "tuple") rfl), He.free_ok X G (c.fact 25 (f := .free "zip") rfl)⟩
  have c_HEDGES := He.int_ok X G (c.fact 26 (f := .int "HEDGES" 20) rfl)
  have c_GARDENS := He.int_ok X G (c.fact 27 (f := .int "GARDENS" 12) rfl)
  have t_fi_cuts_kept := fiB_ok (mg := mg) X G (exAt cx.more 0 (f := fiB "cuts_kept" ["World"]) rfl)
  have t_x_NoHedge := xcB_ok (mg := mg) X G (exAt cx.more 1 (f := xcB "NoHedge") rfl)
  have t_fi_rules_kept := fiB_ok (mg := mg) X G (exAt cx.more 2 (f := fiB "rules_kept" ["World"]) rfl)
  have t_fi_by_number := fiB_ok (mg := mg) X G (exAt cx.more 3 (f := fiB "by_number" ["Book"]) rfl)
  have t_fi_books := fiB_ok (mg := mg) X G (exAt cx.more 4 (f := fiB "books" ["World"]) rfl)
  have t_x_NoGarden := xcB_ok (mg := mg) X G (exAt cx.more 5 (f := xcB "NoGarden") rfl)
  have t_fi_things_kept := fiB_ok (mg := mg) X G (exAt cx.more 6 (f := fiB "things_kept" ["World"]) rfl)
  have t_fi_next_kept := fiB_ok (mg := mg) X G (exAt cx.more 7 (f := fiB "next_kept" ["World"]) rfl)
  have t_fi_net_kept := fiB_ok (mg := mg) X G (exAt cx.more 8 (f := fiB "net_kept" ["World"]) rfl)
  have t_is_ValueError := isB_ok (mg := mg) X G (exAt cx.more 9 (f := isB [.ty "ValueError"] ["Cut", "Deep", "HedgeError", "Long", "NoDeed", "NoField", "NoGarden", "NoHandle", "NoHedge", "NoName", "NoNet", "NoRule", "NoSum", "NoText", "NoValue", "NoWalk", "Shut", "Unknown"] []) rfl)
  have t_is_NoNet := isB_ok (mg := mg) X G (exAt cx.more 10 (f := isB [.own "NoNet"] ["NoNet"] ["Cut", "Deep", "HedgeError", "Long", "NoDeed", "NoField", "NoGarden", "NoHandle", "NoHedge", "NoName", "NoRule", "NoSum", "NoText", "NoValue", "NoWalk", "Shut", "Unknown"]) rfl)
  have t_is_Cut_NoField_NoGarden_NoHandle_NoHedge_NoName_NoRule_NoText_NoValue_NoWalk_Shut := isB_ok (mg := mg) X G (exAt cx.more 11 (f := isB [.own "Cut", .own "NoField", .own "NoGarden", .own "NoHandle", .own "NoHedge", .own "NoName", .own "NoRule", .own "NoText", .own "NoValue", .own "NoWalk", .own "Shut"] ["Cut", "NoField", "NoGarden", "NoHandle", "NoHedge", "NoName", "NoRule", "NoText", "NoValue", "NoWalk", "Shut"] ["Deep", "HedgeError", "Long", "NoDeed", "NoNet", "NoSum", "Unknown"]) rfl)
  have t_tl_HedgeError_NoNet__ := tlB_ok (mg := mg) X G (exAt cx.more 12 (f := tlB "HedgeError" ["NoNet"] []) rfl)
  have t_tc_WORDS := tcB_ok (mg := mg) X G (exAt cx.more 13 (f := tcB "WORDS" ["look", "put", "call"]) rfl)
  have t_x_NoNet := xcB_ok (mg := mg) X G (exAt cx.more 14 (f := xcB "NoNet") rfl)
  have t_fi_next_number := fiB_ok (mg := mg) X G (exAt cx.more 15 (f := fiB "next_number" ["Book"]) rfl)
  have t_fi_by_seen := fiB_ok (mg := mg) X G (exAt cx.more 16 (f := fiB "by_seen" ["Book"]) rfl)
  have mt_World_hedge_known := mtB_ok (mg := mg) X G (exAt cx.more 17 (f := mtB "World" "hedge_known") rfl)
  have mt_World_is_cut := mtB_ok (mg := mg) X G (exAt cx.more 18 (f := mtB "World" "is_cut") rfl)
  have mt_World_rule_of := mtB_ok (mg := mg) X G (exAt cx.more 19 (f := mtB "World" "rule_of") rfl)
  have mt_World_book_of := mtB_ok (mg := mg) X G (exAt cx.more 20 (f := mtB "World" "book_of") rfl)
  have mt_World_handles := mtB_ok (mg := mg) X G (exAt cx.more 21 (f := mtB "World" "handles") rfl)
  have mt_World_many_handles := mtB_ok (mg := mg) X G (exAt cx.more 22 (f := mtB "World" "many_handles") rfl)
  have mt_World___len__ := mtB_ok (mg := mg) X G (exAt cx.more 23 (f := mtB "World" "__len__") rfl)
  have mt_World_next_thing := mtB_ok (mg := mg) X G (exAt cx.more 24 (f := mtB "World" "next_thing") rfl)
  have mt_World_things := mtB_ok (mg := mg) X G (exAt cx.more 25 (f := mtB "World" "things") rfl)
  have mt_World_net_of := mtB_ok (mg := mg) X G (exAt cx.more 26 (f := mtB "World" "net_of") rfl)
  have mt_Book___init__ := mkB_ok (mg := mg) X G (exAt cx.more 27 (f := mkB "Book") rfl)
  have mt_World___init__ := mkB_ok (mg := mg) X G (exAt cx.more 28 (f := mkB "World") rfl)
  have e := hfa.symm.trans g_law
  cases e
  refine ⟨fd_23, fun s v => FunD.bindsA (ps := ["script"]) F_law (fun _ _ _ _ _ _ us hl => match us, hl with | [_], _ => rfl) s [v] rfl, fun base _ _ => ?_⟩
  have T : Xt P w K mg base := ⟨t_fi_cuts_kept, t_x_NoHedge, t_fi_rules_kept, t_fi_by_number, t_fi_books, t_x_NoGarden, t_fi_things_kept, t_fi_next_kept, t_fi_net_kept, t_is_ValueError, t_is_NoNet, t_is_Cut_NoField_NoGarden_NoHandle_NoHedge_NoName_NoRule_NoText_NoValue_NoWalk_Shut, t_tl_HedgeError_NoNet__, t_tc_WORDS, t_x_NoNet, t_fi_next_number, t_fi_by_seen⟩
  have H__law_good := f__law_good (P := P) (w := w) (base := base) F__law_good g__law_good B T  
  have G__law_good := H__law_good.M
  have H__law_alike := f__law_alike (P := P) (w := w) (base := base) F__law_alike g__law_alike B T   8
  have G__law_alike := H__law_alike.M
  have H_World_hedge_known := f_World_hedge_known (P := P) (w := w) (base := base) F_World_hedge_known mt_World_hedge_known B T  
  have G_World_hedge_known := H_World_hedge_known
  have H_World_is_cut := f_World_is_cut (P := P) (w := w) (base := base) F_World_is_cut mt_World_is_cut B T G_World_hedge_known 
  have G_World_is_cut := H_World_is_cut
  have H_World_rule_of := f_World_rule_of (P := P) (w := w) (base := base) F_World_rule_of mt_World_rule_of B T G_World_hedge_known 
  have G_World_rule_of := H_World_rule_of
  have H_World_book_of := f_World_book_of (P := P) (w := w) (base := base) F_World_book_of mt_World_book_of B T  
  have G_World_book_of := H_World_book_of
  have H_World_handles := f_World_handles (P := P) (w := w) (base := base) F_World_handles mt_World_handles B T G_World_book_of 
  have G_World_handles := H_World_handles
  have H_World_many_handles := f_World_many_handles (P := P) (w := w) (base := base) F_World_many_handles mt_World_many_handles B T G_World_book_of 
  have G_World_many_handles := H_World_many_handles
  have H_World___len__ := f_World___len__ (P := P) (w := w) (base := base) F_World___len__ mt_World___len__ B T  
  have G_World___len__ := H_World___len__
  have H_World_next_thing := f_World_next_thing (P := P) (w := w) (base := base) F_World_next_thing mt_World_next_thing B T  
  have G_World_next_thing := H_World_next_thing
  have H_World_things := f_World_things (P := P) (w := w) (base := base) F_World_things mt_World_things B T  
  have G_World_things := H_World_things
  have H_World_net_of := f_World_net_of (P := P) (w := w) (base := base) F_World_net_of mt_World_net_of B T  
  have G_World_net_of := H_World_net_of
  have H__law_fresh := f__law_fresh (P := P) (w := w) (base := base) F__law_fresh g__law_fresh B T G__law_alike G_World_is_cut G_World_rule_of G_World_handles G_World_many_handles G_World___len__ G_World_next_thing G_World_things G_World_net_of 
  have G__law_fresh := H__law_fresh.M
  have H_Book___init__ := f_Book___init__ (P := P) (w := w) (base := base) F_Book___init__ mt_Book___init__ B T  
  have G_Book___init__ := H_Book___init__
  have H_is_whole := f_is_whole (P := P) (w := w) (base := base) F_is_whole g_is_whole B T  
  have G_is_whole := H_is_whole.M
  have H_is_hedge := f_is_hedge (P := P) (w := w) (base := base) F_is_hedge g_is_hedge B T G_is_whole 
  have G_is_hedge := H_is_hedge.M
  have H_is_net := f_is_net (P := P) (w := w) (base := base) F_is_net g_is_net B T G_is_hedge G_is_whole c_HEDGES c_GARDENS
  have G_is_net := H_is_net.M
  have H_World___init__ := f_World___init__ (P := P) (w := w) (base := base) F_World___init__ mt_World___init__ B T G_Book___init__ G_is_net 
  have G_World___init__ := H_World___init__
  have H__law_made := f__law_made (P := P) (w := w) (base := base) F__law_made g__law_made B T G_World___init__ 
  have G__law_made := H__law_made.M
  have H__law_draw := f__law_draw (P := P) (w := w) (base := base) F__law_draw g__law_draw B T  
  have G__law_draw := H__law_draw.M
  have H__law_spoilt := f__law_spoilt (P := P) (w := w) (base := base) F__law_spoilt g__law_spoilt B T G__law_draw 
  have G__law_spoilt := H__law_spoilt.M
  have H__law_net := f__law_net (P := P) (w := w) (base := base) F__law_net g__law_net B T G__law_draw 
  have G__law_net := H__law_net.M
  have H__law_bag := f__law_bag (P := P) (w := w) (base := base) F__law_bag g__law_bag B T  
  have G__law_bag := H__law_bag.M
  have H_law := f_law (P := P) (w := w) (base := base) F_law g_law B T G__law_good G__law_fresh G__law_made G__law_spoilt G__law_net G__law_bag 
  have G_law := H_law.M
  exact H_law.ok
theorem holds (law_true : ∀ ns : List Int, ns.length ≤ 63 → (∀ z ∈ ns, Builtin.Int.intBits z ≤ 1048576) → ∃ h', m_law_k16 [.fl (ns.map .int)] [] = .ok (.bl true) h') : PySem.Challenge.rw_hedgewalk_k16_worlds_made.Holds := by
  w_on; o_law
  refine HandSHeadRun.head_any (r := R) (q := PySem.W.view R.prog [85]) (H := hk) (ob := ob) (M := 15740) (loose := loose) (d := HandSHeadRun.topDef R.prog 85) (kwd := []) ob_eq
    (by kernel_rfl) (fun s => by kernel_rfl) run (by kernel_rfl) (by kernel_rfl) (by kernel_rfl) (by rfl) (by first | assumption | decide +kernel) (by decide +kernel) ⟨rfl, rfl, rfl, rfl, rfl, by decide +kernel⟩ ?hw ?hc
  case hw => w_witness2
  case hc =>
    refine walkM (l := PySem.Challenge.rw_hedgewalk_k16_worlds_made) (n := 63) (k := 11) (x := "script") (mf := m_law_k16) rfl (by decide) (by kernel_rfl) ⟨rfl, by decide, by decide⟩ ?F law_true
    intro w mg fa h Y G hmg0
    obtain ⟨K, KX, c⟩ := Y
    have hmg : mg ("law" : PySem.Str) = some (.ref fa) := by
      have e : (HandSHeadRun.topDef R.prog 85).name = ("law" : PySem.Str) := by kernel_rfl
      rw [← e]
      exact hmg0
    obtain ⟨fd, hb, hF⟩ := facts (P := (PySem.Challenge.rw_hedgewalk_k16_worlds_made).prog) (w := w) KX G hmg c
    exact ⟨K, fd, KX, hb, hF⟩
end K16

theorem PySem.Challenge.cw_hedgewalk_k16_worlds_made_holds : PySem.Challenge.rw_hedgewalk_k16_worlds_made.Holds := by
  exact K16.holds ML.law_k16
