import PyProof.Rows.All
import Wide.All
import OpenK.AllK
import Wide.FinOn
import HandS.ForMost
import KE.KeyNested
import KE.DataMinMax
import KE.SortData
import HandS.TupAny
import HandS.TupMul
import HandS.Conv
import HandS.Slots
import HandS.Exc
import HandS.Deep
import KE.KDictKeyed
import KE.DataCmp
import PyProof.Rows.TupTab
import HandS.Star
import KE.KDictCopyH
import KE.KDictSum
import HandS.More
import HandS.Text
import KE.DataEq
import PyProof.SeqIndex
import HandS.IsInst
import HandS.Style
import HandS.NoneIn
import HandS.Iter
import KE.GoesMore
import HandS.Comp
import HandS.ExcOwn
import HandS.Defaults
import HandS.ExcCtx
import HandS.TryMany
import HandS.Words
import HandS.ExcInit
import PyProof.Rows.TupDisplay
import HandS.ExcField
import HandS.SlotsOwn
import HandS.Property
import HandS.ExcIs
import KE.KIsAll
import KE.KTryMore
import HandS.Ends
import HandS.HeadEnd
import KE.KDictOf
import KE.KDictPairs
import HandS.HotCalls
import KE.KStateDown
import HandS.WordsExc
import HandS.Head0
import HandS.Head1
import HandS.Head2
import HandS.HeadHook1
import HandS.HeadHook2
import HandS.HeadHook3
import HandS.HeadHook4
import PySem.Challenge.RW_picturecodes_k19_errors_apart
set_option Elab.async false
set_option linter.all false
set_option maxRecDepth 100000
section
namespace VL
open PySem PySem.Spec PyProof.Rows L2
structure Zc where
  C : Addr
  names : List Str
  slotted : Bool
  ix : List Nat
def oexB (K : PySem.W.Frag) (C : Addr) : Bool := (match K.lookup C with
  | some ⟨.type "type", _, .cls cd, sl⟩ => (match cd.mro, sl.toList with
    | .ref C' :: bm, [_, _, _, _, some (.builtin n), _] => decide (C' = C) && (decide (n = "ValueError.__new__") && (!cd.hasDel && (cd.hasDict && PySem.HandSPX.refsVE bm)))
    | _, _ => false)
  | _ => false) && (decide (PySem.W.findIn K (.ref C) "__setattr__" = some (some (.builtin "object.__setattr__"))) && (decide (PySem.W.subIn K (.ref C) (.type "BaseException") = some true) && (decide (PySem.W.typeIn K (.ref C) = some (.type "type")) && PySem.W.keepIn K (.ref C))))
def catB (K : PySem.W.Frag) (es : List (Addr × List Str)) (CA : Addr) (cs : List Nat) : Nat → Bool
  | 0 => true
  | n + 1 => catB K es CA cs n && (match es[n]? with
    | some (CB, _) => decide (PySem.W.exmOne K (.ref CB) (.ref CA) = some (cs.contains n))
    | none => true)
def excCB (K : PySem.W.Frag) (Da : Addr) : Bool := decide (PySem.W.findIn K (.ref Da) "__getattribute__" = some (some (.builtin "BaseException.__getattribute__"))) && (decide (PySem.W.findIn K (.ref Da) "__getattr__" = some none) && (decide (PySem.W.subIn K (.ref Da) (.type "BaseException") = some true) && (PySem.W.hasDictIn K Da &&
  (decide (PySem.W.findIn K (.ref Da) "__class__" = some (some (.builtin "object.__class__"))) && (decide (PySem.W.specialIn K (.builtin "object.__class__") "__get__" = some (some (.builtin "getset_descriptor.__get__"))) && (decide (PySem.W.takesIn K (.builtin "object.__class__") = some true) && decide (PySem.W.mroIn K Da (.type "object") = some true)))))))
def fldCB (K : PySem.W.Frag) (es : List (Addr × List Str)) (cs : List Nat) (f : Str) (k : Nat) : Bool := cs.all fun c => match es[c]? with
  | some (CB, names) => xfB K CB && (decide (PySem.W.findIn K (.ref CB) f = some none) && decide (names[k]? = some f))
  | none => true
def isaB (K : PySem.W.Frag) (es : List (Addr × List Str)) (cu : Value) (cs : List Nat) : Nat → Bool
  | 0 => true
  | n + 1 => isaB K es cu cs n && (match es[n]? with
    | some (CB, _) => excCB K CB && decide (PySem.W.kitOne K (.ref CB) cu = some (cs.contains n))
    | none => true)
end VL
end
section
set_option maxHeartbeats 0
namespace VL
open PySem PySem.Spec PyProof.Rows L2
def topS (i : Nat) : Stmt := PySem.Challenge.pw_picturecodes_k19_errors_apart.main.body.getD i (.Pass ⟨0, 0, 0, 0⟩)
def clsS (i j : Nat) : Stmt := match topS i with
  | .ClassDef _ _ _ b _ _ _ _ _ _ _ => b.getD j (.Pass ⟨0, 0, 0, 0⟩)
  | s => s
abbrev st__law_bare : Stmt := topS 15
abbrev st__law_thrown : Stmt := topS 16
abbrev st__law_parts : Stmt := topS 18
abbrev st__law_classes : Stmt := topS 17
abbrev st__law_right : Stmt := topS 19
abbrev st_law : Stmt := topS 20
def st_next : Stmt := PySem.Challenge.pw_picturecodes_k19_errors_apart.main.body.getD 14 (.Pass ⟨0, 0, 0, 0⟩)
def st_mix : Stmt := PySem.Challenge.pw_picturecodes_k19_errors_apart.main.body.getD 13 (.Pass ⟨0, 0, 0, 0⟩)
abbrev st_InvalidWay___init__ : Stmt := clsS 3 0
abbrev st_UnknownWay___init__ : Stmt := clsS 4 0
abbrev st_NotWritten___init__ : Stmt := clsS 6 0
abbrev st_InvalidText___init__ : Stmt := clsS 11 0
def clsL (K : PySem.W.Frag) : List Zc := []
def excL (K : PySem.W.Frag) : List (Addr × List Str) := [(He.ga K "CodeError", []), (He.ga K "InvalidValues", []), (He.ga K "InvalidWay", ["index"]), (He.ga K "UnknownWay", ["index"]), (He.ga K "InvalidPicture", []), (He.ga K "NotWritten", ["place"]), (He.ga K "InvalidBits", []), (He.ga K "NotComparable", []), (He.ga K "InvalidNumber", []), (He.ga K "InvalidPrice", []), (He.ga K "InvalidText", ["line", "word"])]
def dd0 : He.DefD := ⟨("", none), "", "", defArgs st_law, [], defScope st_law, [], []⟩
def hFn : List He.DefD := ([⟨("_law_mix", none), "_law_mix", "_law_mix", defArgs st_mix, defBody st_mix, defScope st_mix, [], []⟩, ⟨("_law_next", none), "_law_next", "_law_next", defArgs st_next, defBody st_next, defScope st_next, [], []⟩, ⟨("_law_bare", none), "_law_bare", "_law_bare", defArgs st__law_bare, defBody st__law_bare, defScope st__law_bare, [], []⟩, ⟨("_law_thrown", none), "_law_thrown", "_law_thrown", defArgs st__law_thrown, defBody st__law_thrown, defScope st__law_thrown, [], []⟩, ⟨("_law_parts", none), "_law_parts", "_law_parts", defArgs st__law_parts, defBody st__law_parts, defScope st__law_parts, [], []⟩, ⟨("_law_classes", none), "_law_classes", "_law_classes", defArgs st__law_classes, defBody st__law_classes, defScope st__law_classes, [], []⟩, ⟨("_law_right", none), "_law_right", "_law_right", defArgs st__law_right, defBody st__law_right, defScope st__law_right, [], []⟩, ⟨("law", none), "law", "law", defArgs st_law, defBody st_law, defScope st_law, [], []⟩, ⟨("InvalidWay", some "__init__"), "__init__", "InvalidWay.__init__", defArgs st_InvalidWay___init__, defBody st_InvalidWay___init__, defScope st_InvalidWay___init__, [], []⟩, ⟨("UnknownWay", some "__init__"), "__init__", "UnknownWay.__init__", defArgs st_UnknownWay___init__, defBody st_UnknownWay___init__, defScope st_UnknownWay___init__, [], []⟩, ⟨("NotWritten", some "__init__"), "__init__", "NotWritten.__init__", defArgs st_NotWritten___init__, defBody st_NotWritten___init__, defScope st_NotWritten___init__, [], []⟩, ⟨("InvalidText", some "__init__"), "__init__", "InvalidText.__init__", defArgs st_InvalidText___init__, defBody st_InvalidText___init__, defScope st_InvalidText___init__, [], []⟩] : List He.DefD)
def hFa : List He.Fa := ([.free "ValueError", .free "all", .free "int", .free "isinstance", .free "len", .free "list", .free "max", .free "range", .exc "InvalidValues", .glo "InvalidValues", .meth "InvalidWay" "__init__", .glo "InvalidWay", .meth "UnknownWay" "__init__", .glo "UnknownWay", .exc "InvalidPicture", .glo "InvalidPicture", .meth "NotWritten" "__init__", .glo "NotWritten", .exc "InvalidBits", .glo "InvalidBits"] : List He.Fa) ++ ([.exc "NotComparable", .glo "NotComparable", .exc "InvalidNumber", .glo "InvalidNumber", .exc "InvalidPrice", .glo "InvalidPrice", .meth "InvalidText" "__init__", .glo "InvalidText", .glo "CodeError", .glo "_law_next", .glo "_law_bare", .glo "_law_thrown", .glo "_law_parts", .glo "_law_classes", .glo "_law_right", .glo "_law_mix", .glo "law"] : List He.Fa)
def hExL (K : PySem.W.Frag) : List Bool := ([oexB K (He.ga K "InvalidWay"), decide (PySem.W.findIn K (.ref (He.ga K "InvalidWay")) "index" = some none), decide (PySem.W.typeIn K (.ref (He.ma K (He.ga K "InvalidWay") "__init__")) = some (.type "function")), oexB K (He.ga K "UnknownWay"), decide (PySem.W.findIn K (.ref (He.ga K "UnknownWay")) "index" = some none), decide (PySem.W.typeIn K (.ref (He.ma K (He.ga K "UnknownWay") "__init__")) = some (.type "function")), oexB K (He.ga K "NotWritten"), decide (PySem.W.findIn K (.ref (He.ga K "NotWritten")) "place" = some none), decide (PySem.W.typeIn K (.ref (He.ma K (He.ga K "NotWritten") "__init__")) = some (.type "function")), oexB K (He.ga K "InvalidText"), decide (PySem.W.findIn K (.ref (He.ga K "InvalidText")) "line" = some none), decide (PySem.W.findIn K (.ref (He.ga K "InvalidText")) "word" = some none), decide (PySem.W.typeIn K (.ref (He.ma K (He.ga K "InvalidText") "__init__")) = some (.type "function")), fldCB K (excL K) [2, 3] "index" 0, fldCB K (excL K) [10] "line" 0, fldCB K (excL K) [5] "place" 0, fldCB K (excL K) [10] "word" 1, isaB K (excL K) (.ref (He.ga K "InvalidBits")) [6] 11, isaB K (excL K) (.ref (He.ga K "InvalidNumber")) [8] 11, isaB K (excL K) (.ref (He.ga K "InvalidPicture")) [4] 11] : List Bool) ++ ([isaB K (excL K) (.ref (He.ga K "InvalidPrice")) [9] 11, isaB K (excL K) (.ref (He.ga K "InvalidText")) [10] 11, isaB K (excL K) (.ref (He.ga K "InvalidValues")) [1] 11, isaB K (excL K) (.ref (He.ga K "InvalidWay")) [2] 11, isaB K (excL K) (.ref (He.ga K "NotComparable")) [7] 11, isaB K (excL K) (.ref (He.ga K "NotWritten")) [5] 11, isaB K (excL K) (.ref (He.ga K "UnknownWay")) [3] 11, catB K (excL K) (He.ga K "CodeError") [0, 1, 2, 3, 4, 5, 6, 7, 8, 9, 10] 11, isaB K (excL K) (.type "ValueError") [0, 1, 2, 3, 4, 5, 6, 7, 8, 9, 10] 11] : List Bool)
def hEx (K : PySem.W.Frag) : Bool := (hExL K).all id
def hTs : List He.Tab := []
def hLz : List Str := (["__name__", "CodeError", "InvalidValues", "InvalidWay", "UnknownWay", "InvalidPicture", "NotWritten", "InvalidBits", "NotComparable", "InvalidNumber", "InvalidPrice", "InvalidText", "_law_mix", "_law_next", "_law_bare", "_law_thrown", "_law_classes", "_law_parts", "_law_right"] : List Str)
abbrev hR : PySem.W.OpenRow := PySem.W.OpenLaw.row PySem.Challenge.rw_picturecodes_k19_errors_apart
abbrev hHk : PySem.W.Hook := He.hookX 4 hFa hFn hTs [] hEx
def hOb (s : PySem.W.SharedT) : He.AlX := He.obsX 4 hFa hFn hTs [] hEx (HandSHeadRun.getT s)
theorem hOb_eq (s : PySem.W.SharedT) : hOb s = hHk.obs s.abs := He.obsX_eq (HandSHeadRun.getT_eq s)
abbrev hRQ (w : World) : Prop := HandSHeadRun.RunEq hR (PySem.W.view hR.prog [20]) hHk hOb 6000 hLz w
theorem run_f (w : World) : hRQ (w.withFollow "special-get-raises" false) := by
  intro os
  kernel_rfl
theorem run_t (w : World) : hRQ (w.withFollow "special-get-raises" true) := by
  intro os
  kernel_rfl
theorem hRun (w : World) : hRQ w := PySem.W.byRow2 "special-get-raises" run_f run_t w
end VL
end
section
/-! V1: plain data D, a small language over slots, its evaluator on plain data. -/
namespace VL
open PySem PySem.Spec PyProof.Rows L2

/-- plain data; rng: the draw's list (a number, its cells, a place) -/
inductive D where
  | non
  | bl (b : Bool)
  | int (i : Int)
  | str (s : Str)
  | tup (xs : List D)
  | lst (xs : List D)
  | dct (kvs : List (D × D))
  | obj (c : Nat) (fs : List D)
  | rng (gp : Nat) (st : Int) (cells : List Int) (ix : Int)
  | exn (c : Nat) (fs : List D)
  deriving Inhabited

def b2i (b : Bool) : Int := if b then 1 else 0
mutual
/-- == of data -/
def eqv : D → D → Bool
  | .non, .non => true
  | .bl a, .bl b => a == b
  | .bl a, .int j => b2i a == j
  | .int i, .bl b => i == b2i b
  | .int i, .int j => i == j
  | .str x, .str y => decide (x = y)
  | .lst xs, .lst ys => eqvL xs ys
  | .tup xs, .tup ys => eqvL xs ys
  | .dct xs, .dct ys => xs.isEmpty && ys.isEmpty
  | _, _ => false
def eqvL : List D → List D → Bool
  | [], [] => true
  | x :: xs, y :: ys => eqv x y && eqvL xs ys
  | _, _ => false
end
mutual
/-- data that == may be asked of -/
def plainD : D → Bool
  | .lst xs => plainL xs
  | .tup xs => plainL xs
  | .dct _ => false
  | .obj _ _ => false
  | .rng _ _ _ _ => false
  | .exn _ _ => false
  | .str s => PyData.strOk s
  | _ => true
def plainL : List D → Bool
  | [] => true
  | x :: xs => plainD x && plainL xs
end
mutual
def depthD : D → Nat
  | .lst xs => depthL xs + 1
  | .tup xs => depthL xs + 1
  | _ => 0
def depthL : List D → Nat
  | [] => 0
  | x :: xs => max (depthD x) (depthL xs)
end
mutual
/-- the key that data is -/
def keyD : D → Option NestedKey
  | .non => some .none
  | .bl b => some (.num (b2i b))
  | .int i => some (.num i)
  | .str s => some (.text s)
  | .tup xs => (keyL xs).map .tup
  | _ => none
def keyL : List D → Option (List NestedKey)
  | [] => some []
  | x :: xs => match keyD x, keyL xs with
    | some k, some ks => some (k :: ks)
    | _, _ => none
end
def isTup : D → Bool
  | .tup _ => true
  | _ => false

/-! ### what an evaluation gives -/
/-- a value: frozen data, a new thing of one's own, or what stands in a slot -/
inductive Vl where
  | fro (d : D)
  | own (d : D)
  | var (i : Nat)
/-- slots: unset, or (is it of one's own, the data) -/
abbrev Fr := List (Option (Bool × D))
inductive Res (α : Type) where
  | ok (a : α) (r : Fr)
  | exc (c : Nat) (fs : List D) (r : Fr)
  | bad
def Res.bnd {α β : Type} (m : Res α) (k : α → Fr → Res β) : Res β := match m with
  | .ok a r => k a r
  | .exc c fs r => .exc c fs r
  | .bad => .bad
/-- a call's end: the result (of one's own?), the lent arguments behind -/
inductive CRes where
  | ret (o : Bool) (d : D) (outs : List D)
  | exc (c : Nat) (fs : List D) (outs : List D)
  | bad
abbrev Sem := List D → CRes
/-- a callee: its name, which parameters are lent, what it does -/
structure Fd where
  lent : List Bool
  np : Nat
  sem : Sem

def slotD (r : Fr) (i : Nat) : Option D := match r[i]? with
  | some (some (_, d)) => some d
  | _ => none
/-- the data of a value, now -/
def Vl.get (r : Fr) : Vl → Option D
  | .fro d => some d
  | .own d => some d
  | .var i => slotD r i
def freezable : D → Bool
  | .rng _ _ _ _ => false
  | _ => true
/-- the value as a part of another thing: frozen -/
def Vl.take (r : Fr) : Vl → Option (D × Fr)
  | .fro d => some (d, r)
  | .own d => if freezable d then some (d, r) else none
  | .var i => match r[i]? with
    | some (some (_, d)) => if freezable d then some (d, r.set i (some (false, d))) else none
    | _ => none
def orBad {α β : Type} (o : Option α) (k : α → Res β) : Res β := match o with
  | some a => k a
  | none => .bad

mutual
/-- the data as the library's data (things that are none: None) -/
def toP : D → PyData
  | .bl b => .bool b
  | .int i => .int i
  | .str s => .str s
  | .lst xs => .list (toPL xs)
  | .tup xs => .tuple (toPL xs)
  | _ => .none
def toPL : List D → List PyData
  | [] => []
  | x :: xs => toP x :: toPL xs
end
/-- data that may be compared by < with each other -/
def alikeD (a b : D) : Bool := plainD a && plainD b && PySem.W.alike (toP a) (toP b) && decide (depthD a ≤ 60) && decide (depthD b ≤ 60) && (match a with | .non => false | _ => true)
def ltD (a b : D) : Bool := PySem.W.dataLt (toP a) (toP b)

/-! ### operations on data -/
abbrev LIM : Nat := 16777216
inductive Bop where | add | sub | mul | fdiv | mod | pow
inductive Cop where | eq | ne | lt | le | gt | ge | isin | notin | isN | notN
def repL {α : Type} (n : Nat) (xs : List α) : List α := (List.replicate n xs).flatten
def isSmall (i : Int) : Bool := decide (-(2 ^ 64) < i) && decide (i < 2 ^ 64)
def repS (n : Nat) (x : Str) : Str := ⟨(repL n x.cps.toList).toArray⟩
/-- x op y -/
def binD : Bop → D → D → Option Vl
  | .add, .int i, .int j => some (.fro (.int (i + j)))
  | .add, .str x, .str y => if x.length + y.length ≤ LIM then some (.fro (.str (x ++ y))) else none
  | .add, .tup xs, .tup ys => if xs.length + ys.length ≤ LIM then some (.fro (.tup (xs ++ ys))) else none
  | .add, .lst xs, .lst ys => if xs.length + ys.length ≤ LIM then some (.own (.lst (xs ++ ys))) else none
  | .sub, .int i, .int j => some (.fro (.int (i - j)))
  | .mul, .int i, .int j => if isSmall i || isSmall j then some (.fro (.int (i * j))) else none
  | .mul, .str x, .int j => if 0 ≤ j ∧ j ≤ 100 ∧ x.length ≤ 1000 then some (.fro (.str (repS j.toNat x))) else none
  | .mul, .tup xs, .int j => if xs.isEmpty = false ∧ 0 ≤ j ∧ j ≤ 100 ∧ xs.length ≤ 1000 then some (.fro (.tup (repL j.toNat xs))) else none
  | .mul, .lst xs, .int j => if 0 ≤ j ∧ j ≤ 100 ∧ xs.length ≤ 10000 then some (.own (.lst (repL j.toNat xs))) else none
  | .fdiv, .int i, .int j => if j ≠ 0 ∧ j.natAbs < 1073741824 then some (.fro (.int (i.fdiv j))) else none
  | .mod, .int i, .int j => if j ≠ 0 then some (.fro (.int (i.fmod j))) else none
  | .pow, .int i, .int j => if 0 ≤ j ∧ j ≤ 1000000 ∧ i.natAbs < 2 ^ 64 then some (.fro (.int (i ^ j.toNat))) else none
  | _, _, _ => none
/-- the key that data is for a dict: a whole number, a text, a tuple -/
def keyOk (k : D) : Option NestedKey := match k with
  | .int i => some (.num i)
  | .str s => some (.text s)
  | .tup xs => match keyL xs with
    | some ks => if (NestedKey.tup ks).depth ≤ 8 then some (.tup ks) else none
    | none => none
  | _ => none
def lookD (k : NestedKey) : List (D × D) → Option D
  | [] => none
  | (a, v) :: r => if keyOk a = some k then some v else lookD k r
/-- keys of one make: all tuples or none -/
def oneMake (k : D) (kvs : List (D × D)) : Bool := kvs.all fun p => isTup p.1 == isTup k
/-- x in y -/
def inD (x : D) : D → Option Bool
  | .lst ys => if plainD x && plainL ys && decide (depthD x ≤ 60) && decide (depthL ys ≤ 60) then some (ys.any fun y => eqv y x) else none
  | .tup ys => if plainD x && plainL ys && decide (depthD x ≤ 60) && decide (depthL ys ≤ 60) then some (ys.any fun y => eqv y x) else none
  | .dct kvs => match keyOk x with
    | some k => if oneMake x kvs then some (lookD k kvs).isSome else none
    | none => none
  | .str z => match x with
    | .str y => if y.length = 1 then some (z.cps.toList.contains (y.cps.getD 0 0)) else none
    | _ => none
  | _ => none
def cmpD : Cop → D → D → Option Bool
  | .eq, .str x, .str y => some (decide (x = y))
  | .ne, .str x, .str y => some (!decide (x = y))
  | .eq, x, y => if plainD x && plainD y && decide (depthD x ≤ 60) && decide (depthD y ≤ 60) then some (eqv x y) else none
  | .ne, x, y => if plainD x && plainD y && decide (depthD x ≤ 60) && decide (depthD y ≤ 60) then some (!eqv x y) else none
  | .lt, .int i, .int j => some (decide (i < j))
  | .gt, .int i, .int j => some (decide (j < i))
  | .le, .int i, .int j => some (decide (i ≤ j))
  | .ge, .int i, .int j => some (decide (j ≤ i))
  | .lt, x, y => if alikeD x y then some (ltD x y) else none
  | .gt, x, y => if alikeD x y then some (ltD y x) else none
  | .le, x, y => if alikeD x y then some (!ltD y x) else none
  | .ge, x, y => if alikeD x y then some (!ltD x y) else none
  | .isin, x, y => inD x y
  | .notin, x, y => (inD x y).map (!·)
  | .isN, x, .non => some (match x with | .non => true | _ => false)
  | .notN, x, .non => some (match x with | .non => false | _ => true)
  | .isN, _, _ => none
  | .notN, _, _ => none
def cutG {α : Type} (xs : List α) (lo hi : Option Int) : List α := (xs.drop (HT.sIx xs.length 0 lo)).take (HT.sIx xs.length xs.length hi - HT.sIx xs.length 0 lo)
def cutT (x : Str) (lo hi : Option Int) : Str := ⟨(cutG x.cps.toList lo hi).toArray⟩
def idxD : D → D → Option D
  | .lst xs, .int i => atI xs i
  | .tup xs, .int i => atI xs i
  | .str z, .int i => if z.length ≤ LIM then (atI z.cps.toList i).map fun c => .str ⟨#[c]⟩ else none
  | .dct kvs, x => match keyOk x with
    | some k => if oneMake x kvs then lookD k kvs else none
    | none => none
  | _, _ => none
def slcD (lo hi : Option Int) : D → Option Vl
  | .lst xs => some (.own (.lst (cutG xs lo hi)))
  | .tup xs => some (.fro (.tup (cutG xs lo hi)))
  | .str z => if z.length ≤ LIM then some (.fro (.str (cutT z lo hi))) else none
  | _ => none
def rvsD : D → Option Vl
  | .lst xs => some (.own (.lst xs.reverse))
  | .tup xs => some (.fro (.tup xs.reverse))
  | _ => none
end VL
end
section
/-! V2: the small language and what it does to plain data. -/
namespace VL
open PySem PySem.Spec PyProof.Rows L2

inductive Blt where | len | tuple | list | dict | sorted | sortset | min1 | max1 | max2 | min2 | all | int | str | abs | tupR | lstR
inductive Bme where | join | split | index
inductive Mut where | append | extend | insert | pop | popi | update | reverse
inductive Ty where | int | bool | str | tuple | list | dict
mutual
inductive Tg where
  | nm (i : Nat)
  | tp (ts : Tgs)
inductive Tgs where
  | nil
  | cons (t : Tg) (ts : Tgs)
end
mutual
inductive Ex where
  | var (i : Nat)
  | cst (d : D)
  | glb (j : Nat)
  | bin (op : Bop) (a b : Ex)
  | cmp (op : Cop) (a b : Ex)
  | chn (op op' : Cop) (a b c : Ex)
  | con (isAnd : Bool) (a b : Ex)
  | not (a : Ex)
  | ite (c a b : Ex)
  | idx (a b : Ex)
  | slc (a : Ex) (lo hi : Oe)
  | rvs (a : Ex)
  | fld (c k : Nat) (a : Ex)
  | tup (as : Ar)
  | lst (as : Ar)
  | dic (ps : Ps)
  | cmpr (own : List Nat) (it : It) (tg : Tg) (tst : Oe) (e : Ex)
  | dcmp (own : List Nat) (it : It) (tg : Tg) (tst : Oe) (k v : Ex)
  | call (f : Nat) (as : Ar)
  | meth (c f : Nat) (a : Ex) (as : Ar)
  | prop (c f : Nat) (a : Ex)
  | new (c f : Nat) (as : Ar)
  | blt (b : Blt) (as : Ar)
  | bme (m : Bme) (a : Ex) (as : Ar)
  | get2 (a : Ex) (as : Ar)
  | mut (m : Mut) (i : Nat) (as : Ar)
  | isi (t : Ty) (a : Ex)
  | fst (ps : Fs)
  | lenO (c f : Nat) (a : Ex)
  | cmpo (own : List Nat) (i : Nat) (tg : Tg) (tst : Oe) (e : Ex)
  | calk (f : Nat) (as : Ar)
  | eqO (c f : Nat) (a b : Ex)
  | isc (c : Nat) (a : Ex)
  | neD (a b : Ex)
  | xis (cs : List Nat) (a : Ex)
  | xfl (ks : List (Nat × Nat)) (a : Ex)
  | calx (f : Nat) (as : Ar)
inductive Oe where
  | no
  | so (e : Ex)
inductive Ar where
  | nil
  | cons (e : Ex) (as : Ar)
  | star (e : Ex) (as : Ar)
inductive Ps where
  | nil
  | cons (k v : Ex) (ps : Ps)
  | star (e : Ex) (ps : Ps)
inductive It where
  | val (e : Ex)
  | range1 (a : Ex)
  | range2 (a b : Ex)
  | enum (e : Ex)
  | items (e : Ex)
inductive Fs where
  | nil
  | lit (s : Str) (fs : Fs)
  | val (e : Ex) (fs : Fs)
end
mutual
inductive Sx where
  | cst (d : D)
  | fld (k : Nat)
  | tup (xs : Sxs)
  | lst (xs : Sxs)
  | inc (i : Nat)
inductive Sxs where
  | nil
  | cons (x : Sx) (xs : Sxs)
end
mutual
inductive St where
  | asg (t : Tg) (e : Ex)
  | par (is : List Nat) (as : Ar)
  | aug (i : Nat) (op : Bop) (e : Ex)
  | sto (i : Nat) (k v : Ex)
  | sfl (i c k : Nat) (e : Ex)
  | afl (i c k : Nat) (op : Bop) (e : Ex)
  | exp (e : Ex)
  | ife (c : Ex) (a b : Sts)
  | whl (c : Ex) (b : Sts)
  | for (it : It) (t : Tg) (b : Sts)
  | ret (e : Ex)
  | rai (c n : Nat) (as : Ar)
  | try (b : Sts) (hs : Hs)
  | l1u (i : Nat) (a b : Ex)
  | trx (b : Sts) (cs : List Nat) (j : Nat) (s : Sts)
  | pass
inductive Sts where
  | nil
  | cons (s : St) (ss : Sts)
inductive Hs where
  | nil
  | cons (cs : List Nat) (n : Option Nat) (i : Nat) (e : Sx) (hs : Hs)
end

/-! ### helpers on slots -/
def Vl.put (r : Fr) (i : Nat) : Vl → Option Fr
  | .fro d => some (r.set i (some (false, d)))
  | .own d => some (r.set i (some (true, d)))
  | .var j => match r[j]? with
    | some (some (_, d)) => if freezable d then some ((r.set j (some (false, d))).set i (some (false, d))) else none
    | _ => none
mutual
/-- frozen data into a target -/
def putT : Tg → D → Fr → Option Fr
  | .nm i, d, r => some (r.set i (some (false, d)))
  | .tp ts, .tup xs, r => putTs ts xs r
  | .tp _, _, _ => none
def putTs : Tgs → List D → Fr → Option Fr
  | .nil, [], r => some r
  | .cons t ts, d :: ds, r => match putT t d r with
    | some r' => putTs ts ds r'
    | none => none
  | _, _, _ => none
end
/-- a value into a target -/
def putV (t : Tg) (v : Vl) (r : Fr) : Option Fr := match t with
  | .nm i => v.put r i
  | .tp ts => match v.take r with
    | some (.tup xs, r') => putTs ts xs r'
    | some (.lst xs, r') => putTs ts xs r'
    | _ => none
/-- arguments: lent ones are handed over with their slot -/
def lendL : List Bool → List Vl → Fr → Option (List D × Fr)
  | _, [], r => some ([], r)
  | true :: ms, v :: vs, r => match v with
    | .own d => match lendL ms vs r with
      | some (ds, r2) => some (d :: ds, r2)
      | none => none
    | .var i => match r[i]? with
      | some (some (true, d)) => match lendL ms vs (r.set i none) with
        | some (ds, r2) => some (d :: ds, r2)
        | none => none
      | _ => none
    | .fro _ => none
  | false :: ms, v :: vs, r => match v.take r with
    | some (d, r1) => match lendL ms vs r1 with
      | some (ds, r2) => some (d :: ds, r2)
      | none => none
    | none => none
  | [], v :: vs, r => match v.take r with
    | some (d, r1) => match lendL [] vs r1 with
      | some (ds, r2) => some (d :: ds, r2)
      | none => none
    | none => none
def takeL (vs : List Vl) (r : Fr) : Option (List D × Fr) := lendL [] vs r
/-- .. and come back -/
def backL : List Bool → List Vl → List D → Fr → Option Fr
  | _, [], [], r => some r
  | true :: ms, .var i :: vs, d :: ds, r => backL ms vs ds (r.set i (some (true, d)))
  | true :: ms, _ :: vs, _ :: ds, r => backL ms vs ds r
  | false :: ms, _ :: vs, ds, r => backL ms vs ds r
  | [], _ :: vs, ds, r => backL [] vs ds r
  | _, _, _, _ => none
def callF (fd : Fd) (vs : List Vl) (r : Fr) : Res Vl := match lendL fd.lent vs r with
  | none => .bad
  | some (ds, r2) => if ds.length = fd.np then match fd.sem ds with
    | .ret o d outs => match backL fd.lent vs outs r2 with
      | some r3 => .ok (if o then .own d else .fro d) r3
      | none => .bad
    | .exc c fs outs => match backL fd.lent vs outs r2 with
      | some r3 => .exc c fs r3
      | none => .bad
    | .bad => .bad
    else .bad
/-- data without parts -/
def scal : D → Bool
  | .non => true
  | .bl _ => true
  | .int _ => true
  | .str _ => true
  | _ => false
/-- what may stand on the right of == behind an object of class c -/
def eqRight (c : Nat) : D → Bool
  | .obj d _ => d == c
  | .rng _ _ _ _ => false
  | _ => true
/-- isinstance(x, C) -/
def iscD (c : Nat) : D → Option Bool
  | .obj d _ => if d = c then some true else none
  | .lst _ => some false
  | _ => none
/-- a call that hands back data without parts: all stays one's own -/
def callK (fd : Fd) (vs : List Vl) (r : Fr) : Res Vl := match lendL [] vs r with
  | none => .bad
  | some (ds, _) => if ds.length = fd.np then match fd.sem ds with
    | .ret _ d _ => if scal d then .ok (.fro d) r else .bad
    | _ => .bad
    else .bad
/-- what is walked, as frozen data -/
def itemsOf : D → Option (List D)
  | .lst xs => some xs
  | .tup xs => some xs
  | .dct kvs => some (kvs.map (·.1))
  | .str z => if z.length ≤ LIM then some (z.cps.toList.map fun c => .str ⟨#[c]⟩) else none
  | _ => none
def seqOf : D → Option (List D)
  | .lst xs => some xs
  | .tup xs => some xs
  | _ => none
def rangeD (lo hi : Int) : Option (List D) := if -(2 ^ 62) ≤ lo ∧ lo < 2 ^ 62 ∧ -(2 ^ 62) ≤ hi ∧ hi < 2 ^ 62 ∧ hi - lo ≤ LIM then some ((List.range (hi - lo).toNat).map fun (k : Nat) => .int (lo + (k : Int))) else none
def enumD (xs : List D) : List D := (List.range xs.length).zipWith (fun (k : Nat) x => .tup [.int (k : Int), x]) xs
def storeD (k : D) (n : NestedKey) (v : D) : List (D × D) → List (D × D)
  | [] => [(k, v)]
  | (a, w) :: r => if keyOk a = some n then (a, v) :: r else (a, w) :: storeD k n v r
def putKey (kvs : List (D × D)) (k v : D) : Option (List (D × D)) := match keyOk k with
  | some n => if oneMake k kvs ∧ kvs.length < LIM then some (storeD k n v kvs) else none
  | none => none
def putKeys (kvs : List (D × D)) : List (D × D) → Option (List (D × D))
  | [] => some kvs
  | (k, v) :: r => match putKey kvs k v with
    | some kvs' => putKeys kvs' r
    | none => none
/-- all numbers -/
def numsN : List NestedKey → Option (List Int)
  | [] => some []
  | .num i :: r => (numsN r).map (i :: ·)
  | _ :: _ => none
/-- the hash of a tuple of numbers -/
def flatH : NestedKey → Option Int
  | .tup ks => (numsN ks).map fun is => reduceHash (Builtin.Tuple.tupleHashOf (is.map hashInt))
  | _ => none
def flatHs : List (D × D) → Option (List Int)
  | [] => some []
  | (k, _) :: r => match (keyOk k).bind flatH, flatHs r with
    | some h, some hs => some (h :: hs)
    | _, _ => none
/-- keys that are tuples of numbers, no two of which hash alike -/
def apartD (kvs : List (D × D)) : Bool := match flatHs kvs with
  | some hs => decide hs.Nodup
  | none => false
def isIntD : D → Bool
  | .int _ => true
  | _ => false
/-- keys that are tuples, values that are numbers -/
def tabD (kvs : List (D × D)) : Bool := kvs.all fun p => isTup p.1 && isIntD p.2
/-- d != e, tables of numbers -/
def sameT (ys : List (D × D)) : List (D × D) → Bool
  | [] => true
  | (k, v) :: r => (match (keyOk k).bind fun n => lookD n ys with
    | some y => eqv v y
    | none => false) && sameT ys r
def neDct (xs ys : List (D × D)) : Option Bool := if tabD xs && tabD ys then some (!(xs.length == ys.length && sameT ys xs)) else none
def pairsOf : List D → Option (List (D × D))
  | [] => some []
  | .tup [k, v] :: r => (pairsOf r).map ((k, v) :: ·)
  | _ :: _ => none
def alikeAllD (xs : List D) : Bool := xs.all fun x => xs.all fun y => alikeD x y
/-- all tuples with an item at least, or none -/
def sortableD (xs : List D) : Bool := (xs.all fun x => match x with | .tup (_ :: _) => true | _ => false) || (xs.all fun x => match x with | .tup _ => false | _ => true)
def leD (a b : D) : Bool := !ltD b a
def minDl : List D → Option D
  | [] => none
  | x :: xs => if alikeAllD (x :: xs) then some (xs.foldl (fun a y => if ltD y a then y else a) x) else none
def maxDl : List D → Option D
  | [] => none
  | x :: xs => if alikeAllD (x :: xs) then some (xs.foldl (fun a y => if ltD a y then y else a) x) else none
def allD : List D → Option Bool
  | [] => some true
  | .bl b :: r => (allD r).map (b && ·)
  | _ :: _ => none
def strsOf : List D → Option (List Str)
  | [] => some []
  | .str s :: r => (strsOf r).map (s :: ·)
  | _ :: _ => none
def totalLen (sep : Str) (xs : List Str) : Nat := (xs.map (·.length)).sum + xs.length * sep.length
/-- distinct texts, the first ones kept -/
def dedupS : List Str → List Str
  | [] => []
  | x :: r => x :: (dedupS r).filter (· ≠ x)
def strLe (a b : Str) : Bool := !decide (b.cps.toList < a.cps.toList)
def bltD : Blt → List D → Option Vl
  | .len, [.str z] => if z.length ≤ LIM then some (.fro (.int z.length)) else none
  | .len, [.lst xs] => some (.fro (.int xs.length))
  | .len, [.tup xs] => some (.fro (.int xs.length))
  | .len, [.dct xs] => some (.fro (.int xs.length))
  | .tuple, [d] => (seqOf d).map fun xs => .fro (.tup xs)
  | .list, [.dct kvs] => some (.own (.lst (kvs.map (·.1))))
  | .list, [d] => (seqOf d).map fun xs => .own (.lst xs)
  | .dict, [.dct kvs] => if apartD kvs then some (.own (.dct kvs)) else none
  | .dict, [d] => ((seqOf d).bind fun xs => (pairsOf xs).bind fun ps => putKeys [] ps).map fun kvs => .own (.dct kvs)
  | .sorted, [.lst xs] => if alikeAllD xs && sortableD xs then some (.own (.lst (xs.mergeSort leD))) else none
  | .sorted, [.dct kvs] => if alikeAllD (kvs.map (·.1)) && sortableD (kvs.map (·.1)) then some (.own (.lst ((kvs.map (·.1)).mergeSort leD))) else none
  | .sortset, [.lst ds] => (strsOf ds).bind fun xs => if xs.length ≤ 1000 then some (.own (.lst (((dedupS xs).mergeSort strLe).map .str))) else none
  | .min1, [.lst xs] => (minDl xs).map .fro
  | .max1, [.lst xs] => (maxDl xs).map .fro
  | .max2, [.int i, .int j] => some (.fro (.int (if j > i then j else i)))
  | .min2, [.int i, .int j] => some (.fro (.int (if j < i then j else i)))
  | .all, [.lst xs] => (allD xs).map fun b => .fro (.bl b)
  | .int, [.int i] => some (.fro (.int i))
  | .int, [.bl b] => some (.fro (.int (b2i b)))
  | .int, [.str z] => if z.length ≤ 640 then (intText? z).map fun n => .fro (.int n) else none
  | .str, [.int i] => if i.natAbs.log2 < 1920 then some (.fro (.str (toString i))) else none
  | .tupR, [.int n] => (rangeD 0 n).map fun xs => .fro (.tup xs)
  | .lstR, [.int n] => (rangeD 0 n).map fun xs => .own (.lst xs)
  | .abs, [.int i] => some (.fro (.int (if i < 0 then -i else i)))
  | _, _ => none
def findD (x : D) : List D → Nat → Option Nat
  | [], _ => none
  | y :: r, n => if eqv y x then some n else findD x r (n + 1)
def bmeD : Bme → D → List D → Option Vl
  | .join, .str sep, [.lst d] => (strsOf d).bind fun xs => if totalLen sep xs ≤ LIM then some (.fro (.str (Txt.join sep xs))) else none
  | .split, .str z, [.str sep] => if sep.length ≠ 0 ∧ z.length + 2 ≤ LIM then some (.own (.lst ((Txt.split z sep).map .str))) else none
  | .index, .tup xs, [x] => if plainL xs && plainD x && decide (depthD x ≤ 60) && decide (depthL xs ≤ 60) then (findD x xs 0).map fun (n : Nat) => .fro (.int (n : Int)) else none
  | _, _, _ => none
def bmeK : Bme → Option D → Bool
  | .join, some (.str _) => true
  | .split, some (.str _) => true
  | .index, some (.tup _) => true
  | _, _ => false
def isDct : Option D → Bool
  | some (.dct _) => true
  | _ => false
def mutK : Mut → Option (Option (Bool × D)) → Bool
  | .update, some (some (true, .dct _)) => true
  | .update, _ => false
  | _, some (some (true, .lst _)) => true
  | _, _ => false
/-- a thing of one's own changed: its data behind, what is handed back -/
def mutD : Mut → D → List D → Option (D × D)
  | .append, .lst xs, [x] => if xs.length < LIM then some (.lst (xs ++ [x]), .non) else none
  | .extend, .lst xs, [.lst ys] => if xs.length + ys.length ≤ LIM then some (.lst (xs ++ ys), .non) else none
  | .insert, .lst xs, [.int i, x] => if 0 ≤ i ∧ i ≤ xs.length ∧ xs.length < LIM then some (.lst (xs.take i.toNat ++ x :: xs.drop i.toNat), .non) else none
  | .pop, .lst xs, [] => match xs.getLast? with
    | some x => some (.lst xs.dropLast, x)
    | none => none
  | .popi, .lst xs, [.int i] => if 0 ≤ i ∧ i < xs.length then (xs[i.toNat]?).map fun x => (.lst (xs.eraseIdx i.toNat), x) else none
  | .update, .dct kvs, [.dct more] => (putKeys kvs more).map fun kvs' => (.dct kvs', .non)
  | .reverse, .lst xs, [] => some (.lst xs.reverse, .non)
  | _, _, _ => none
def tyName : D → Option String
  | .non => some "NoneType"
  | .bl _ => some "bool"
  | .int _ => some "int"
  | .str _ => some "str"
  | .tup _ => some "tuple"
  | .lst _ => some "list"
  | .dct _ => some "dict"
  | .obj _ _ => none
  | .rng _ _ _ _ => none
  | .exn _ _ => none
def tyStr : Ty → String
  | .int => "int"
  | .bool => "bool"
  | .str => "str"
  | .tuple => "tuple"
  | .list => "list"
  | .dict => "dict"
def isiD (t : Ty) : D → Option Bool
  | .non => some false
  | .bl _ => some (match t with | .int => true | .bool => true | _ => false)
  | .int _ => some (match t with | .int => true | _ => false)
  | .str _ => some (match t with | .str => true | _ => false)
  | .tup _ => some (match t with | .tuple => true | _ => false)
  | .lst _ => some (match t with | .list => true | _ => false)
  | .dct _ => some (match t with | .dict => true | _ => false)
  | .obj _ _ => none
  | .rng _ _ _ _ => none
  | .exn _ _ => none
def fstD : List (Str ⊕ D) → Option Str
  | [] => some ⟨#[]⟩
  | .inl s :: r => (fstD r).map (s ++ ·)
  | .inr (.str s) :: r => (fstD r).map (s ++ ·)
  | .inr (.int i) :: r => if i.natAbs.log2 < 1920 then (fstD r).map ((toString i : Str) ++ ·) else none
  | _ :: _ => none
def wipeF (r : Fr) : List Nat → Fr
  | [] => r
  | v :: vs => (wipeF r vs).set v none
/-- the slots at vs as they were in q -/
def restF (q r : Fr) : List Nat → Fr
  | [] => r
  | v :: vs => (restF q r vs).set v (q[v]?.getD none)
def isTrueV (r : Fr) (v : Vl) : Option Bool := match v.get r with
  | some (.bl b) => some b
  | _ => none
/-- no exception leaves -/
def Res.calm {α : Type} (m : Res α) : Res α := match m with
  | .exc _ _ _ => .bad
  | m => m
/-- a comprehension's own slots hold nothing of one's own -/
def ownFree (r : Fr) (vs : List Nat) : Bool := vs.all fun v => match r[v]? with
  | some (some (true, _)) => false
  | _ => true
/-- over the items, the list so far -/
def loopC (own : List Nat) (t : Tg) (tst e : Fr → Res Vl) : List D → List D → Fr → Res (List D)
  | [], acc, r => .ok acc r
  | d :: ds, acc, r => match putT t d (wipeF r own) with
    | none => .bad
    | some r1 => (tst r1).calm.bnd fun b r2 => match isTrueV r2 b with
      | some true => (e r2).calm.bnd fun v r3 => match v.take r3 with
        | some (x, r4) => if acc.length < LIM then loopC own t tst e ds (acc ++ [x]) r4 else .bad
        | none => .bad
      | some false => loopC own t tst e ds acc r2
      | none => .bad
def loopD (own : List Nat) (t : Tg) (tst k v : Fr → Res Vl) : List D → List (D × D) → Fr → Res (List (D × D))
  | [], acc, r => .ok acc r
  | d :: ds, acc, r => match putT t d (wipeF r own) with
    | none => .bad
    | some r1 => (tst r1).calm.bnd fun b r2 => match isTrueV r2 b with
      | some true => (k r2).calm.bnd fun kv r3 => (v r3).calm.bnd fun vv r4 => match takeL [kv, vv] r4 with
        | some ([kd, vd], r5) => match putKey acc kd vd with
          | some acc' => loopD own t tst k v ds acc' r5
          | none => .bad
        | _ => .bad
      | some false => loopD own t tst k v ds acc r2
      | none => .bad

section
variable (G : List Fd) (C : List D)
mutual
def evE : Ex → Fr → Res Vl
  | .var i, r => match slotD r i with
    | some _ => .ok (.var i) r
    | none => .bad
  | .cst d, r => .ok (.fro d) r
  | .glb j, r => match C[j]? with
    | some d => .ok (.fro d) r
    | none => .bad
  | .bin op a b, r => (evE a r).bnd fun va r1 => (evE b r1).bnd fun vb r2 => match va.get r2, vb.get r2 with
    | some x, some y => orBad (binD op x y) fun v => .ok v r2
    | _, _ => .bad
  | .cmp op a b, r => (evE a r).bnd fun va r1 => (evE b r1).bnd fun vb r2 => match va.get r2, vb.get r2 with
    | some x, some y => orBad (cmpD op x y) fun v => .ok (.fro (.bl v)) r2
    | _, _ => .bad
  | .chn op op' a b c, r => (evE a r).bnd fun va r1 => (evE b r1).bnd fun vb r2 => match va.get r2, vb.get r2 with
    | some x, some y => orBad (cmpD op x y) fun v => match v with
      | true => (evE c r2).bnd fun vc r3 => match vb.get r3, vc.get r3 with
        | some y', some z => orBad (cmpD op' y' z) fun w => .ok (.fro (.bl w)) r3
        | _, _ => .bad
      | false => .ok (.fro (.bl false)) r2
    | _, _ => .bad
  | .con k a b, r => (evE a r).bnd fun va r1 => match isTrueV r1 va with
    | some t => if t = k then evE b r1 else .ok (.fro (.bl t)) r1
    | none => .bad
  | .not a, r => (evE a r).bnd fun va r1 => match isTrueV r1 va with
    | some t => .ok (.fro (.bl (!t))) r1
    | none => .bad
  | .ite c a b, r => (evE c r).bnd fun vc r1 => match isTrueV r1 vc with
    | some true => evE a r1
    | some false => evE b r1
    | none => .bad
  | .idx a b, r => (evE a r).bnd fun va r1 => (evE b r1).bnd fun vb r2 => match va.get r2, vb.get r2 with
    | some x, some y => orBad (idxD x y) fun v => .ok (.fro v) r2
    | _, _ => .bad
  | .slc a lo hi, r => (evE a r).bnd fun va r1 => (evO lo r1).bnd fun vl r2 => (evO hi r2).bnd fun vh r3 => match va.get r3 with
    | some x => orBad (slcD vl vh x) fun v => .ok v r3
    | none => .bad
  | .rvs a, r => (evE a r).bnd fun va r1 => match va.get r1 with
    | some x => orBad (rvsD x) fun v => .ok v r1
    | none => .bad
  | .fld c k a, r => (evE a r).bnd fun va r1 => match va.get r1 with
    | some (.obj d fs) => if c = d then orBad fs[k]? fun v => .ok (.fro v) r1 else .bad
    | _ => .bad
  | .tup as, r => (evA as r).bnd fun vs r1 => orBad (takeL vs r1) fun p => if p.1.length ≤ LIM then .ok (.fro (.tup p.1)) p.2 else .bad
  | .lst as, r => (evA as r).bnd fun vs r1 => orBad (takeL vs r1) fun p => if p.1.length ≤ LIM then .ok (.own (.lst p.1)) p.2 else .bad
  | .dic ps, r => (evP ps [] r).bnd fun kvs r1 => .ok (.own (.dct kvs)) r1
  | .cmpr own it t tst e, r => (evI it r).bnd fun ds r1 => if ownFree r1 own then (loopC own t (fun r => evT tst r) (fun r => evE e r) ds [] r1).bnd fun xs r2 => .ok (.own (.lst xs)) (restF r1 r2 own) else .bad
  | .dcmp own it t tst k v, r => (evI it r).bnd fun ds r1 => if ownFree r1 own then (loopD own t (fun r => evT tst r) (fun r => evE k r) (fun r => evE v r) ds [] r1).bnd fun xs r2 => .ok (.own (.dct xs)) (restF r1 r2 own) else .bad
  | .call f as, r => (evA as r).bnd fun vs r1 => orBad G[f]? fun fd => callF fd vs r1
  | .meth c f a as, r => (evE a r).bnd fun va r1 => match va.get r1 with
    | some (.obj d _) => if c = d then (evA as r1).bnd fun vs r2 => orBad G[f]? fun fd => callF fd (va :: vs) r2 else .bad
    | _ => .bad
  | .prop c f a, r => (evE a r).bnd fun va r1 => match va.get r1 with
    | some (.obj d _) => if c = d then (orBad G[f]? fun fd => callF fd [va] r1).calm else .bad
    | _ => .bad
  | .new c f as, r => (evA as r).bnd fun vs r1 => orBad G[f]? fun fd => orBad (takeL vs r1) fun p => if p.1.length + 1 = fd.np then match fd.sem (.obj c [] :: p.1) with
    | .ret _ .non [d] => .ok (.own d) p.2
    | .exc c fs _ => .exc c fs p.2
    | _ => .bad
    else .bad
  | .blt b as, r => (evA as r).bnd fun vs r1 => orBad (vs.mapM (Vl.get r1)) fun ds => orBad (bltD b ds) fun v => .ok v r1
  | .bme m a as, r => (evE a r).bnd fun va r1 => if bmeK m (va.get r1) then (evA as r1).bnd fun vs r2 => orBad (va.get r2) fun x => orBad (vs.mapM (Vl.get r2)) fun ds => orBad (bmeD m x ds) fun v => .ok v r2 else .bad
  | .get2 a as, r => (evE a r).bnd fun va r1 => if isDct (va.get r1) then (evA as r1).bnd fun vs r2 => orBad (takeL vs r2) fun p => match va.get p.2, p.1 with
    | some (.dct kvs), [x, y] => orBad (keyOk x) fun n => if oneMake x kvs then .ok (.fro ((lookD n kvs).getD y)) p.2 else .bad
    | _, _ => .bad
    else .bad
  | .mut m i as, r => if mutK m r[i]? then (evA as r).bnd fun vs r1 => orBad (takeL vs r1) fun p => match p.2[i]? with
    | some (some (true, d)) => orBad (mutD m d p.1) fun q => .ok (.fro q.2) (p.2.set i (some (true, q.1)))
    | _ => .bad
    else .bad
  | .isi t a, r => (evE a r).bnd fun va r1 => match va.get r1 with
    | some x => orBad (isiD t x) fun b => .ok (.fro (.bl b)) r1
    | none => .bad
  | .fst ps, r => (evF ps r).calm.bnd fun xs r1 => orBad (fstD xs) fun s => if s.length ≤ LIM then .ok (.fro (.str s)) r1 else .bad
  | .lenO c f a, r => (evE a r).bnd fun va r1 => match va.get r1 with
    | some (.obj d _) => if c = d then ((orBad G[f]? fun fd => callF fd [va] r1).calm).bnd fun v r2 => match v.get r2 with
      | some (.int n) => if 0 ≤ n ∧ n < 2 ^ 63 then .ok (.fro (.int n)) r2 else .bad
      | _ => .bad
      else .bad
    | _ => .bad
  | .cmpo own i t tst e, r => match r[i]? with
    | some (some (true, .lst ds)) => if ownFree (r.set i none) own then (loopC own t (fun r => evT tst r) (fun r => evE e r) ds [] (r.set i none)).bnd fun xs r2 => .ok (.own (.lst xs)) ((restF (r.set i none) r2 own).set i (some (true, .lst ds))) else .bad
    | _ => .bad
  | .calk f as, r => (evA as r).bnd fun vs r1 => orBad G[f]? fun fd => callK fd vs r1
  | .eqO c f a b, r => (evE a r).bnd fun va r1 => (evE b r1).bnd fun vb r2 => match va.get r2, vb.get r2 with
    | some (.obj d _), some y => if c = d then if eqRight c y then orBad G[f]? fun fd => callK fd [va, vb] r2 else .bad else .bad
    | _, _ => .bad
  | .neD a b, r => (evE a r).bnd fun va r1 => (evE b r1).bnd fun vb r2 => match va.get r2, vb.get r2 with
    | some (.dct xs), some (.dct ys) => orBad (neDct xs ys) fun q => .ok (.fro (.bl q)) r2
    | _, _ => .bad
  | .isc c a, r => (evE a r).bnd fun va r1 => match va.get r1 with
    | some x => orBad (iscD c x) fun b => .ok (.fro (.bl b)) r1
    | none => .bad
  | .xis cs a, r => (evE a r).bnd fun va r1 => match va.get r1 with
    | some (.exn c _) => .ok (.fro (.bl (cs.contains c))) r1
    | _ => .bad
  | .xfl ks a, r => (evE a r).bnd fun va r1 => match va.get r1 with
    | some (.exn c fs) => orBad ((ks.lookup c).bind fun k => fs[k]?) fun d => .ok (.fro d) r1
    | _ => .bad
  | .calx f as, r => (evA as r).bnd fun vs r1 => (orBad G[f]? fun fd => callF fd vs r1).calm
def evO : Oe → Fr → Res (Option Int)
  | .no, r => .ok none r
  | .so e, r => (evE e r).bnd fun v r1 => match v.get r1 with
    | some (.int i) => .ok (some i) r1
    | _ => .bad
/-- a comprehension's test -/
def evT : Oe → Fr → Res Vl
  | .no, r => .ok (.fro (.bl true)) r
  | .so e, r => evE e r
def evA : Ar → Fr → Res (List Vl)
  | .nil, r => .ok [] r
  | .cons e as, r => (evE e r).bnd fun v r1 => (evA as r1).bnd fun vs r2 => .ok (v :: vs) r2
  | .star e as, r => (evE e r).bnd fun v r1 => match (v.get r1).bind seqOf with
    | some ds => (evA as r1).bnd fun vs r2 => .ok (ds.map Vl.fro ++ vs) r2
    | none => .bad
def evP : Ps → List (D × D) → Fr → Res (List (D × D))
  | .nil, acc, r => .ok acc r
  | .cons k v ps, acc, r => (evE k r).bnd fun kv r1 => (evE v r1).bnd fun vv r2 => match takeL [kv, vv] r2 with
    | some ([kd, vd], r3) => match putKey acc kd vd with
      | some acc' => evP ps acc' r3
      | none => .bad
    | _ => .bad
  | .star e ps, acc, r => (evE e r).bnd fun v r1 => match v.get r1 with
    | some (.dct more) => if acc.isEmpty && !more.isEmpty && apartD more then evP ps more r1 else .bad
    | _ => .bad
def evI : It → Fr → Res (List D)
  | .val e, r => (evE e r).bnd fun v r1 => match v.take r1 with
    | some (d, r2) => orBad (itemsOf d) fun ds => .ok ds r2
    | none => .bad
  | .range1 a, r => (evE a r).bnd fun v r1 => match v.get r1 with
    | some (.int n) => orBad (rangeD 0 n) fun ds => .ok ds r1
    | _ => .bad
  | .range2 a b, r => (evE a r).bnd fun v r1 => (evE b r1).bnd fun w r2 => match v.get r2, w.get r2 with
    | some (.int m), some (.int n) => orBad (rangeD m n) fun ds => .ok ds r2
    | _, _ => .bad
  | .enum e, r => (evE e r).bnd fun v r1 => match v.take r1 with
    | some (d, r2) => orBad (seqOf d) fun ds => .ok (enumD ds) r2
    | none => .bad
  | .items e, r => (evE e r).bnd fun v r1 => match v.take r1 with
    | some (.dct kvs, r2) => .ok (kvs.map fun p => .tup [p.1, p.2]) r2
    | _ => .bad
def evF : Fs → Fr → Res (List (Str ⊕ D))
  | .nil, r => .ok [] r
  | .lit s fs, r => (evF fs r).bnd fun xs r1 => .ok (.inl s :: xs) r1
  | .val e fs, r => (evE e r).bnd fun v r1 => match v.get r1 with
    | some d => (evF fs r1).bnd fun xs r2 => .ok (.inr d :: xs) r2
    | none => .bad
end
end
end VL
end
section
/-! V3: statements, loops, a def's whole. -/
namespace VL
open PySem PySem.Spec PyProof.Rows L2

inductive Out where
  | nx (r : Fr)
  | rt (o : Bool) (d : D) (r : Fr)
  | exc (c : Nat) (fs : List D) (r : Fr)
  | bad
def Res.out {α : Type} (m : Res α) (k : α → Fr → Out) : Out := match m with
  | .ok a r => k a r
  | .exc c fs r => .exc c fs r
  | .bad => .bad
def orOut {α : Type} (o : Option α) (k : α → Out) : Out := match o with
  | some a => k a
  | none => .bad
def Out.seq (o : Out) (k : Fr → Out) : Out := match o with
  | .nx r => k r
  | o => o
/-- for -/
def loopF (t : Tg) (b : Fr → Out) : List D → Fr → Out
  | [], r => .nx r
  | d :: ds, r => match putT t d r with
    | none => .bad
    | some r1 => (b r1).seq (loopF t b ds)
/-- a turn of while: on, or its end -/
def stepW (c : Fr → Res Vl) (b : Fr → Out) (r : Fr) : Fr ⊕ Out := match c r with
  | .ok v r1 => match isTrueV r1 v with
    | some true => match b r1 with
      | .nx r2 => .inl r2
      | .rt o d r2 => .inr (.rt o d r2)
      | .exc k fs r2 => .inr (.exc k fs r2)
      | .bad => .inr .bad
    | some false => .inr (.nx r1)
    | none => .inr .bad
  | .exc k fs r1 => .inr (.exc k fs r1)
  | .bad => .inr .bad
/-- while, n tests at most -/
def whl1 (c : Fr → Res Vl) (b : Fr → Out) : Nat → Fr → Option Out
  | 0, _ => none
  | n + 1, r => match stepW c b r with
    | .inl r2 => whl1 c b n r2
    | .inr o => some o
open Classical in
/-- while, as it ends; bad where it doesn't -/
noncomputable def whileC (c : Fr → Res Vl) (b : Fr → Out) (r : Fr) : Out :=
  if h : ∃ n o, whl1 c b n r = some o then h.choose_spec.choose else .bad
theorem whl1_mono {c : Fr → Res Vl} {b : Fr → Out} : ∀ {n : Nat} {r : Fr} {o : Out}, whl1 c b n r = some o → whl1 c b (n + 1) r = some o
  | 0, _, _, h => nomatch h
  | n + 1, r, o, h => by
    rw [whl1] at h ⊢
    cases hs : stepW c b r with
    | inl r2 =>
      rw [hs] at h
      exact whl1_mono h
    | inr q =>
      rw [hs] at h
      exact h
theorem whl1_le {c : Fr → Res Vl} {b : Fr → Out} {n m : Nat} {r : Fr} {o : Out} (h : whl1 c b n r = some o) (hm : n ≤ m) : whl1 c b m r = some o := by
  induction hm with
  | refl => exact h
  | step _ ih => exact whl1_mono ih
theorem whileC_of {c : Fr → Res Vl} {b : Fr → Out} {n : Nat} {r : Fr} {o : Out} (h : whl1 c b n r = some o) : whileC c b r = o := by
  have hx : ∃ n o, whl1 c b n r = some o := ⟨n, o, h⟩
  unfold whileC
  rw [dif_pos hx]
  have h2 := hx.choose_spec.choose_spec
  have e1 := whl1_le h (Nat.le_max_left n hx.choose)
  have e2 := whl1_le h2 (Nat.le_max_right n hx.choose)
  exact Option.some.inj (e2.symm.trans e1)
theorem whileC_ends {c : Fr → Res Vl} {b : Fr → Out} {r : Fr} (h : whileC c b r ≠ .bad) : ∃ n, whl1 c b n r = some (whileC c b r) := by
  by_cases hx : ∃ n o, whl1 c b n r = some o
  · obtain ⟨n, o, e⟩ := hx
    exact ⟨n, by rw [whileC_of e]; exact e⟩
  · unfold whileC at h
    rw [dif_neg hx] at h
    exact absurd rfl h
theorem whileC_step {c : Fr → Res Vl} {b : Fr → Out} {r : Fr} : whileC c b r = match stepW c b r with
    | .inl r2 => whileC c b r2
    | .inr o => o := by
  cases hs : stepW c b r with
  | inr o => exact whileC_of (n := 1) (by rw [whl1, hs])
  | inl r2 =>
    show whileC c b r = whileC c b r2
    by_cases hx : ∃ n o, whl1 c b n r2 = some o
    · obtain ⟨n, o, e⟩ := hx
      rw [whileC_of e]
      exact whileC_of (n := n + 1) (by rw [whl1, hs]; exact e)
    · have hy : ¬ ∃ n o, whl1 c b n r = some o := by
        rintro ⟨n, o, e⟩
        cases n with
        | zero => cases e
        | succ n =>
          rw [whl1, hs] at e
          exact hx ⟨n, o, e⟩
      unfold whileC
      rw [dif_neg hx, dif_neg hy]
/-- one turn -/
theorem whileC_eq (c : Fr → Res Vl) (b : Fr → Out) (r : Fr) : whileC c b r = (c r).out fun v r1 => match isTrueV r1 v with
    | some true => (b r1).seq (whileC c b)
    | some false => .nx r1
    | none => .bad := by
  rw [whileC_step]
  unfold stepW Res.out
  cases c r with
  | bad => rfl
  | exc k fs r1 => rfl
  | ok v r1 =>
    dsimp only
    cases isTrueV r1 v with
    | none => rfl
    | some t =>
      cases t with
      | false => rfl
      | true =>
        dsimp only
        cases b r1 <;> rfl

mutual
def evX (fs : List D) (r : Fr) : Sx → Option D
  | .cst d => some d
  | .fld k => fs[k]?
  | .tup xs => (evXs fs r xs).map .tup
  | .lst xs => (evXs fs r xs).map .lst
  | .inc i => match slotD r i with
    | some (.int n) => some (.int (n + 1))
    | _ => none
def evXs (fs : List D) (r : Fr) : Sxs → Option (List D)
  | .nil => some []
  | .cons x xs => match evX fs r x, evXs fs r xs with
    | some d, some ds => some (d :: ds)
    | _, _ => none
end
/-- a handler's name holds nothing known -/
def offN (n : Option Nat) (r : Fr) : Fr := match n with
  | some j => r.set j none
  | none => r
def okN (n : Option Nat) (r : Fr) : Bool := match n with
  | some j => decide (j < r.length)
  | none => true
def evH (c : Nat) (fs : List D) (r : Fr) : Hs → Out
  | .nil => .exc c fs r
  | .cons cs n i e hs => if cs.contains c then if okN n r then match evX fs (offN n r) e with
      | some d => .nx ((offN n r).set i (some (false, d)))
      | none => .bad
    else .bad
    else evH c fs r hs
def setAt (fs : List D) (k : Nat) (d : D) : Option (List D) := if k < fs.length then some (fs.set k d) else if k = fs.length then some (fs ++ [d]) else none
def stoO (i : Nat) (vs : List D) (r : Fr) : Out := match vs, r[i]? with
    | [x, .int n], some (some (true, .lst xs)) => if 0 ≤ n ∧ n < xs.length then .nx (r.set i (some (true, .lst (xs.set n.toNat x)))) else .bad
    | [x, y], some (some (true, .dct kvs)) => orOut (putKey kvs y x) fun kvs' => .nx (r.set i (some (true, .dct kvs')))
    | _, _ => .bad
def retO (v : Vl) (r1 : Fr) : Out := match v with
    | .fro d => .rt false d r1
    | .own d => .rt true d r1
    | .var i => match r1[i]? with
      | some (some (true, d)) => .rt true d (r1.set i none)
      | some (some (false, d)) => .rt false d r1
      | _ => .bad
mutual
/-- no caught error in it -/
def noX : D → Bool
  | .tup xs => noXL xs
  | .lst xs => noXL xs
  | .dct kvs => noXE kvs
  | .obj _ fs => noXL fs
  | .exn _ _ => false
  | _ => true
def noXL : List D → Bool
  | [] => true
  | x :: xs => noX x && noXL xs
def noXE : List (D × D) → Bool
  | [] => true
  | (k, v) :: r => noX k && noX v && noXE r
end
def noXF : Fr → Bool
  | [] => true
  | some (_, d) :: r => noX d && noXF r
  | none :: r => noXF r
section
variable (G : List Fd) (C : List D)
mutual
noncomputable def evS : St → Fr → Out
  | .asg t e, r => (evE G C e r).out fun v r1 => orOut (putV t v r1) .nx
  | .par is as, r => (evA G C as r).out fun vs r1 => orOut (takeL vs r1) fun p => if p.1.length = is.length then .nx ((is.zip p.1).foldl (fun r q => r.set q.1 (some (false, q.2))) p.2) else .bad
  | .aug i op e, r => match slotD r i with
    | none => .bad
    | some _ => (evE G C e r).out fun v r1 => match slotD r1 i, v.get r1 with
      | some (.int a), some (.int b) => orOut (binD op (.int a) (.int b)) fun w => orOut (w.put r1 i) .nx
      | some (.str a), some (.str b) => orOut (binD op (.str a) (.str b)) fun w => orOut (w.put r1 i) .nx
      | _, _ => .bad
  | .sto i k v, r => (evE G C v r).out fun vv r1 => match slotD r1 i with
    | none => .bad
    | some _ => (evE G C k r1).out fun vk r2 => orOut (takeL [vv, vk] r2) fun p => stoO i p.1 p.2
  | .sfl i c k e, r => (evE G C e r).out fun v r1 => orOut (v.take r1) fun p => match p.2[i]? with
    | some (some (true, .obj d fs)) => if c = d then orOut (setAt fs k p.1) fun fs' => .nx (p.2.set i (some (true, .obj d fs'))) else .bad
    | _ => .bad
  | .afl i c k op e, r => (evE G C e r).out fun v r1 => match r1[i]?, v.get r1 with
    | some (some (true, .obj d fs)), some (.int b) => match fs[k]? with
      | some (.int a) => if c = d then (match binD op (.int a) (.int b) with
        | some (.fro z) => orOut (setAt fs k z) fun fs' => .nx (r1.set i (some (true, .obj d fs')))
        | _ => .bad) else .bad
      | _ => .bad
    | _, _ => .bad
  | .exp e, r => (evE G C e r).out fun _ r1 => .nx r1
  | .ife c a b, r => (evE G C c r).out fun v r1 => match isTrueV r1 v with
    | some true => evSs a r1
    | some false => evSs b r1
    | none => .bad
  | .whl c b, r => whileC (fun r => evE G C c r) (fun r => evSs b r) r
  | .for it t b, r => (evI G C it r).out fun ds r1 => loopF t (fun r => evSs b r) ds r1
  | .ret e, r => (evE G C e r).out retO
  | .rai c n as, r => (evA G C as r).out fun vs r1 => orOut (takeL vs r1) fun p => if p.1.length = n then .exc c p.1 p.2 else .bad
  | .try b hs, r => match evSs b r with
    | .exc c fs r1 => evH c fs r1 hs
    | o => o
  | .trx b cs j s, r => match evSs b r with
    | .exc c fs r1 => if cs.contains c then (if j < r1.length then (match evSs s (r1.set j (some (false, .exn c fs))) with
        | .nx r2 => if noXF (r2.set j none) then .nx (r2.set j none) else .bad
        | _ => .bad) else .bad) else .exc c fs r1
    | o => o
  | .pass, r => .nx r
  | .l1u i a b, r => (evE G C a r).out fun va r1 => match va, r1[i]? with
    | .own (.dct ks), some none => if ks.isEmpty || !(ks.all fun p => isTup p.1) then .bad else (evE G C b r1).out fun vb r2 => match vb.get r2, r2[i]? with
      | some (.dct more), some none => if ks.length + more.length ≤ LIM then orOut (putKeys ks more) fun kvs => .nx (r2.set i (some (true, .lst [.dct kvs]))) else .bad
      | _, _ => .bad
    | _, _ => .bad
noncomputable def evSs : Sts → Fr → Out
  | .nil, r => .nx r
  | .cons s ss, r => (evS s r).seq (fun r1 => evSs ss r1)
end
end
/-- the slots at a def's entry -/
def entryF : List Bool → List D → Fr
  | _, [] => []
  | m :: ms, d :: ds => some (m, d) :: entryF ms ds
  | [], d :: ds => some (false, d) :: entryF [] ds
/-- the lent ones, behind -/
def outsF : List Bool → Fr → Option (List D)
  | [], _ => some []
  | true :: ms, some (true, d) :: r => (outsF ms r).map (d :: ·)
  | true :: _, _ => none
  | false :: ms, _ :: r => outsF ms r
  | false :: ms, [] => outsF ms []
def endC (lent : List Bool) : Out → CRes
  | .nx r => match outsF lent r with
    | some outs => .ret false .non outs
    | none => .bad
  | .rt o d r => match outsF lent r with
    | some outs => .ret o d outs
    | none => .bad
  | .exc c fs r => match outsF lent r with
    | some outs => .exc c fs outs
    | none => .bad
  | .bad => .bad
/-- a def: which parameters are lent, how many slots, its body -/
noncomputable def runF (G : List Fd) (C : List D) (lent : List Bool) (np n : Nat) (b : Sts) : Sem := fun ds =>
  if ds.length = np then endC lent (evSs G C b (entryF lent ds ++ List.replicate (n - np) none)) else .bad
end VL
end
section
/-! VT: tuples of which it is known that they have no dict of their own: the rules that lay new ones. -/
namespace VL
open PySem PySem.Spec PyProof.Rows L2

/-- a tuple without a dict -/
def SqN (K : PySem.W.Frag) (H : Hp) (a : Addr) (xs : List V) : Prop :=
  (∃ o, H a = some (.frz o (.tup xs)) ∧ o.dict = none) ∨
    ∃ (o : Obj) (its : Array Value) (n : Nat), K.lookup a = some o ∧ o.cls = .type "tuple" ∧ o.dict = none ∧ o.data = .seq its n ∧ its.size ≤ sizeLine ∧ Vals xs its.toList
theorem SqN.sqT {K : PySem.W.Frag} {H : Hp} {a : Addr} {xs : List V} (h : SqN K H a xs) : SqT K H a xs := by
  rcases h with ⟨o, h, _⟩ | ⟨o, its, n, h1, h2, _, h3⟩
  · exact .inl (.inr ⟨o, h⟩)
  · exact .inr ⟨o, its, n, h1, h2, h3⟩
theorem SqN.of {K : PySem.W.Frag} {H : Hp} {a : Addr} {xs : List V} {o : Obj} (h : H a = some (.frz o (.tup xs))) (hd : o.dict = none) : SqN K H a xs := .inl ⟨o, h, hd⟩
section
variable {X : Cx} {pins : List (Addr × Obj)} {σ : L2.St} {H : Hp} {s : Shared} {es : List Expr} {pos : Pos} {t : TA}
def ntup (us : List Value) : Obj := { cls := .type "tuple", data := .seq us.toArray }
/-- laid -/
theorem ntup_ok {xs : List V} {us : List Value} {Q : VK} (I : Inv X pins σ H s) (r : Vals xs us) (z : xs.length ≤ sizeLine) {h' : Heap} {tk : Nat} (kp : ∀ b o, s.heap.get? b = some o → h'.get? b = some o)
    (q : ∀ p o, H p = none → o.dict = none → Q (.ref p) (upd H p (.frz o (.tup xs)))) : EP X pins σ Q (.ref h'.objs.size) { s with heap := h'.push { cls := .type "tuple", data := .seq us.toArray }, toks := tk } := by
  have I1 : Inv X pins σ H { s with heap := h', toks := tk } := I.kept kp
  have hf : H h'.objs.size = none := I1.hok.fresh (Nat.le_refl _)
  refine ⟨.ref h'.objs.size, upd H h'.objs.size (.frz (ntup us) (.tup xs)), I1.laid (t' := tk) (fun b u e => Heap.get?_push_of_some _ e) (Nat.le_refl _) ?_, rfl, q _ _ hf rfl⟩
  exact ⟨Heap.get?_push_size _ rfl, z, us, r, ⟨_, Heap.get?_push_size _ rfl, rfl, _, rfl⟩⟩
def tTupN (t : TA) : TE := fun σ H Q => t σ H fun xs H1 => xs.length ≤ sizeLine ∧ ∀ p o, H1 p = none → o.dict = none → Q (.ref p) (upd H1 p (.frz o (.tup xs)))
theorem pe_tupN {x1} (h : PA X es t) : PE X (.Tuple es x1 pos) (tTupN t) := by
  refine ⟨fun pins s σ H Q I hq => ?_⟩
  refine wpAny_Tuple_spliced (thn (h.run pos pins s σ H _ I hq) fun us s1 ⟨xs, H1, I1, r, z, q⟩ => ⟨by rw [← r.length]; exact z, ?_⟩)
  exact ntup_ok (tk := s1.toks) I1 r z (fun _ _ e => e) q
/-- t + u -/
def rCatN (K : PySem.W.Frag) : R2 := fun x y H Q => ∃ a b xs ys, x = .ref a ∧ y = .ref b ∧ SqT K H a xs ∧ SqT K H b ys ∧ xs.length + ys.length ≤ sizeLine ∧
  (xs = [] → Q (.ref b) H) ∧ (xs ≠ [] → ys = [] → Q (.ref a) H) ∧ (xs ≠ [] → ys ≠ [] → ∀ p o, H p = none → o.dict = none → Q (.ref p) (upd H p (.frz o (.tup (xs ++ ys)))))
theorem op_catN : OpR X (binaryOp .Add) (rCatN X.K) := by
  intro pins s σ H x y v u Q I rx ry h
  obtain ⟨a, b, xs, ys, rfl, rfl, ha, hb, hz, q0, q1, q2⟩ := h
  cases rx
  cases ry
  obtain ⟨its, r1, p1, _⟩ := I.tuple ha
  obtain ⟨its2, r2, p2, _⟩ := I.tuple hb
  by_cases hx : xs = []
  · subst hx
    cases r1
    exact cat_tup0 p1 p2 ⟨.ref b, H, I, rfl, q0 rfl⟩
  · refine HT.cat_tup p1 p2 (fun z => hx (r1.nil_iff.mp z)) (fun z => ⟨.ref a, H, I, rfl, q1 hx (r2.nil_iff.mp z)⟩) (fun z => ?_) (by rw [← r1.length, ← r2.length]; exact hz)
    exact ntup_ok (tk := s.toks) I (r1.append r2) (by rw [List.length_append]; exact hz) (fun _ _ e => e) (q2 hx fun w => z (r2.nil_iff.mpr w))
/-- t[lo:hi] -/
def rSlN (K : PySem.W.Frag) : V → Option Int → Option Int → Hp → VK → Prop := fun x lo hi H Q => ∃ a xs, x = .ref a ∧ SqT K H a xs ∧
  (HT.sIx xs.length 0 lo = 0 ∧ HT.sIx xs.length xs.length hi = xs.length → Q (.ref a) H) ∧ (¬ (HT.sIx xs.length 0 lo = 0 ∧ HT.sIx xs.length xs.length hi = xs.length) → ∀ p o, H p = none → o.dict = none → Q (.ref p) (upd H p (.frz o (.tup (cutV xs lo hi)))))
theorem sl_tupN : SlR X (rSlN X.K) := by
  intro pins s σ H x v vl vu lo hi sl Q I rx hs pl pu h
  obtain ⟨a, xs, rfl, hx, q1, q2⟩ := h
  cases rx
  obtain ⟨its, r, ht, hz⟩ := I.tuple hx
  have hlen : its.toArray.size = xs.length := by rw [List.size_toArray]; exact r.length.symm
  refine ⟨"tuple", _, PyProof.Rows.slot_tuple_getitem.lookup, ht.typeIs, ?_⟩
  by_cases hw : HT.sIx xs.length 0 lo = 0 ∧ HT.sIx xs.length xs.length hi = xs.length
  · exact getItem_tuple_whole ht hs pl pu (by rw [hlen]; exact hw) ⟨.ref a, H, I, rfl, q1 hw⟩
  · refine HT.getItem_tuple_cut ht hs pl pu (by rw [hlen]; exact hw) ?_ (by rw [hlen]; exact hz)
    rw [hlen]
    exact ntup_ok (tk := s.toks) I ((r.drop (HT.sIx xs.length 0 lo)).take (HT.sIx xs.length xs.length hi - HT.sIx xs.length 0 lo)) (Nat.le_trans (cutV_length xs lo hi) hz) (fun _ _ e => e) (q2 hw)
/-- tuple(xs) -/
theorem call_tupleN : CallR X (.type "tuple") (fun xs H Q => ∃ p ys, xs = [.ref p] ∧ ((SqL X.K H p ys ∧ ∀ l o, H l = none → o.dict = none → Q (.ref l) (upd H l (.frz o (.tup ys)))) ∨ (SqT X.K H p ys ∧ Q (.ref p) H))) := by
  intro pins s σ H xs us Q I r h
  obtain ⟨p, ys, rfl, h⟩ := h
  obtain ⟨u, rfl, rx⟩ := vals1 r
  cases rx
  rcases h with ⟨hq, q⟩ | ⟨hq, q⟩
  · obtain ⟨its, r', pl, hz⟩ := I.list hq
    have hlen := r'.length
    refine call_tuple_list pl.isList (fun h' kp => ?_) (by simp only [List.size_toArray] <;> omega)
    exact ntup_ok (tk := s.toks) I r' hz kp q
  · obtain ⟨its, r', pl, hz⟩ := I.tuple hq
    exact call_tuple_same pl ⟨.ref p, H, I, rfl, q⟩
/-- tuple(range(..)) -/
def tTupRgN (te : L2.St → Hp → (Int → Int → Hp → Prop) → Prop) : TE := fun σ H Q => te σ H fun a b H1 => RgOk a b ∧ ∀ q o, H1 q = none → o.dict = none → Q (.ref q) (upd H1 q (.frz o (.tup (rgV a b))))
theorem pe_tupRgN {e : Expr} {te : L2.St → Hp → (Int → Int → Hp → Prop) → Prop} {p pos : Pos} (hc : X.calm = true) (hg : Gl X "tuple") (hm : X.mg "tuple" = none) (he : PRg X e te) (na : starEach [e] X.env = (false, eval e X.env) :: starEach [] X.env := by rfl) : PE X (.Call (.Name "tuple" p) [e] [] pos) (tTupRgN te) := by
  refine ⟨fun pins s σ H Q I h => ?_⟩
  refine Call_ (ld_blt I hg hm boot_tuple (PyProof.Rows.callWith_type1 (args_cons (thn (he pins s σ H _ I h) fun x s1 ⟨r, a, b, t, u, v, H1, ex, hr, I1, ok, q⟩ => args_nil ?_) na) na))
  subst ex
  obtain ⟨b1, b2, b3, b4, b5⟩ := ok
  refine call_tuple_range (n := (b - a).toNat) (I1.ok.hd hc) hr (small_one b1 b2 b3 b4) (rangeSize_nat a b) b5 fun h' tk acc hk hi => ?_
  have := ntup_ok (tk := tk) I1 (vals_rg hi) (by rw [rgV_length, sizeLine_eq]; omega) hk q
  rw [Array.toArray_toList] at this
  exact this
/-- t * 1, t * 0 -/
theorem tuple_mul1 (l : Addr) (items : Array Value) (n : Nat) (dd : Option Addr) (sl : Array (Option Value)) (u : Tok) :
    Meets (Builtin.«tuple.__mul__» ⟨[.ref l, .int 1 u], []⟩) (fun _ R s => s.heap.get? l = some { cls := .type "tuple", dict := dd, data := .seq items n, slots := sl } ∧ R (.ok (.ret (Value.ref l))) s) :=
  .of_wp fun prog w A R s h => by
    obtain ⟨hp, g, d, tk, os⟩ := s
    obtain ⟨hl, h⟩ := h
    have f1 := AutoSeq1.idx_int
    wp_walk using wpAny_loadPart' hl
    repeat (first
      | (refine wpAny_ite_true (decide_eq_true (by rw [Bool.or_eq_true]; exact .inr rfl)) ?_; wp_walk using wpAny_loadPart' hl)
      | (refine wpAny_ite_false (by decide) ?_; wp_walk using wpAny_loadPart' hl)
      | (refine wpAny_ite_true (by decide) ?_; wp_walk using wpAny_loadPart' hl))
    exact ⟨_, rfl, h⟩
theorem tuple_mul0 (l : Addr) (items : Array Value) (hi : items.isEmpty = false) (n : Nat) (dd : Option Addr) (sl : Array (Option Value)) (u : Tok) :
    Meets (Builtin.«tuple.__mul__» ⟨[.ref l, .int 0 u], []⟩) (fun _ R s => s.heap.get? l = some { cls := .type "tuple", dict := dd, data := .seq items n, slots := sl } ∧
      R (.ok (.ret (Value.ref s.heap.objs.size))) { s with heap := s.heap.push { cls := Value.type "tuple", data := Data.seq #[] }, toks := s.toks }) :=
  .of_wp fun prog w A R s h => by
    obtain ⟨hp, g, d, tk, os⟩ := s
    obtain ⟨hl, h⟩ := h
    have f1 := AutoSeq1.idx_int
    wp_walk using wpAny_loadPart' hl
    repeat (first
      | (refine wpAny_ite_false (decide_eq_false (by rw [hi]; decide)) ?_; wp_walk using wpAny_loadPart' hl)
      | (refine wpAny_ite_false (by decide) ?_; wp_walk using wpAny_loadPart' hl)
      | (refine wpAny_ite_true (by decide) ?_; wp_walk using wpAny_loadPart' hl))
    exact ⟨_, rfl, h⟩
/-- t * n -/
def rRepN (K : PySem.W.Frag) : R2 := fun x y H Q => ∃ l k xs, x = .ref l ∧ y = .int k ∧ SqT K H l xs ∧ xs ≠ [] ∧ 0 ≤ k ∧ k ≤ 1000 ∧ xs.length ≤ 1000 ∧ (k = 1 → Q (.ref l) H) ∧ (k ≠ 1 → ∀ p o, H p = none → o.dict = none → Q (.ref p) (upd H p (.frz o (.tup (List.replicate k.toNat xs).flatten))))
theorem op_repN : OpR X (binaryOp .Mult) (rRepN X.K) := by
  intro pins s σ H x y v u Q I rx ry h
  obtain ⟨l, k, xs, rfl, rfl, hT, hne, h1, h2, hz, q1, q⟩ := h
  cases rx
  obtain ⟨t, rfl⟩ := ry
  obtain ⟨its, r, ⟨⟨cls, dd, data, sl⟩, ho, hc, n, hd⟩, hs⟩ := I.tuple hT
  simp only at hc hd
  subst hc hd
  have hle : its.length = xs.length := r.length.symm
  have hn : its ≠ [] := fun e => hne (by
    rw [e] at hle
    exact List.eq_nil_of_length_eq_zero hle.symm)
  have hi : its.toArray.isEmpty = false := by
    cases its with
    | nil => exact absurd rfl hn
    | cons a b => rfl
  by_cases k1 : k = 1
  · subst k1
    exact wpAny_binaryOp_repeat_ref (T := "tuple") (U := "int") (by decide) ⟨_, ho, rfl⟩ (fun s' => typeIs_int s' 1 t) noFill_tuple_mul F.fills_int_mul F.slot_int_rmul repeat_tuple F.slot_int_index.lookup
      (call_meets F.slot_int_rmul (typeIs_int s 1 t) F.entry_int_rmul (F.args_int_rmul_2 _ _) (int_rmul_tuple 1 t l its.toArray n dd sl)
        ⟨ho, rfl, ⟨_, ho, rfl⟩, call_meets F.slot_tuple_mul ⟨_, ho, rfl⟩ F.entry_tuple_mul (F.args_tuple_mul_2 _ _) (tuple_mul1 l its.toArray n dd sl t) ⟨ho, ⟨.ref l, H, I, rfl, q1 rfl⟩⟩⟩)
  by_cases k0 : k = 0
  · subst k0
    refine wpAny_binaryOp_repeat_ref (T := "tuple") (U := "int") (by decide) ⟨_, ho, rfl⟩ (fun s' => typeIs_int s' 0 t) noFill_tuple_mul F.fills_int_mul F.slot_int_rmul repeat_tuple F.slot_int_index.lookup
      (call_meets F.slot_int_rmul (typeIs_int s 0 t) F.entry_int_rmul (F.args_int_rmul_2 _ _) (int_rmul_tuple 0 t l its.toArray n dd sl)
        ⟨ho, rfl, ⟨_, ho, rfl⟩, call_meets F.slot_tuple_mul ⟨_, ho, rfl⟩ F.entry_tuple_mul (F.args_tuple_mul_2 _ _) (tuple_mul0 l its.toArray hi n dd sl t) ⟨ho, ?_⟩⟩)
    exact ntup_ok (tk := s.toks) I (r.rep 0) (by simp) (fun _ _ e => e) (q k1)
  have hsz0 : its.toArray.size = xs.length := by rw [List.size_toArray, hle]
  have hm : ((its.toArray.size : Nat) : Int) * k ≤ 1000000 := by
    rw [hsz0]
    have a1 : ((xs.length : Nat) : Int) * k ≤ 1000 * k := Int.mul_le_mul_of_nonneg_right (by omega) (by omega)
    omega
  have flen : (List.replicate k.toNat its).flatten.length ≤ sizeLine := by
    rw [PyProof.Rows.lm_len_rep_flat, hle, sizeLine_eq]
    have a1 : k.toNat * xs.length ≤ 1000 * 1000 := Nat.mul_le_mul (by omega) hz
    omega
  have c0 : (decide (k < -(2 ^ 63)) || decide (k ≥ 2 ^ 63)) = false := by
    rw [decide_eq_false (by omega), decide_eq_false (by omega)] <;> rfl
  have c1 : (its.toArray.isEmpty || k == 1) = false := by
    rw [hi, Bool.false_or]
    exact beq_eq_false_iff_ne.mpr (by omega)
  have c2 : (decide (k ≤ 0) || its.toArray.isEmpty) = false := by
    rw [hi, Bool.or_false]
    exact decide_eq_false (by omega)
  have c4 : Builtin.Tuple.tupleTooMany (((its.toArray.size : Nat) : Int) * k) = false := by
    unfold Builtin.Tuple.tupleTooMany
    rw [sizeLine_eq]
    exact decide_eq_false (by omega)
  refine wpAny_binaryOp_repeat_ref (T := "tuple") (U := "int") (by decide) ⟨_, ho, rfl⟩ (fun s' => typeIs_int s' k t) noFill_tuple_mul F.fills_int_mul F.slot_int_rmul repeat_tuple F.slot_int_index.lookup
    (call_meets F.slot_int_rmul (typeIs_int s k t) F.entry_int_rmul (F.args_int_rmul_2 _ _) (int_rmul_tuple k t l its.toArray n dd sl)
      ⟨ho, rfl, ⟨_, ho, rfl⟩, call_meets F.slot_tuple_mul ⟨_, ho, rfl⟩ F.entry_tuple_mul (F.args_tuple_mul_2 _ _) (tuple_mulW l its.toArray n dd sl k t c0 c1 c2 (by omega) c4 (by rw [size_rep, List.size_toArray]; exact flen)) ⟨ho, ?_⟩⟩)
  rw [size_rep]
  exact ntup_ok (tk := s.toks) I (r.rep k.toNat) (by rw [PyProof.Rows.lm_len_rep_flat, sizeLine_eq]; have a1 : k.toNat * xs.length ≤ 1000 * 1000 := Nat.mul_le_mul (by omega) hz; omega) (fun _ _ e => e) (q k1)
end
end VL
end
section
/-! V4: plain data in the abstract heap; slots and their things. -/
namespace VL
open PySem PySem.Spec PyProof.Rows L2

/-- the classes; slots whose things stay the same ones -/
structure Clz where
  l : List Zc
  pins : List (Nat × Addr)
  /-- caught errors: where, the class, the dict -/
  xl : List (Addr × Addr × Option Addr)
structure Zx where
  P : Program
  w : World
  K : PySem.W.Frag
  cls : Clz
  exc : List (Addr × List Str)

/-- the very object o at d -/
def dco (d : Addr) (o : Obj) : HO := .ext fun h => h.get? d = some o
structure DcO (H : Hp) (d : Addr) (o : Obj) (es : Array DictEntry) (ep : Nat) : Prop where
  at_ : H d = some (dco d o)
  ex : o.ExactDict
  dat : o.data = .dict es ep
  sys : (d == sysModules) = false
/-- an instance of class c at a, its own dict at dx -/
def ObjAt (Z : Zx) (H : Hp) (a dx : Addr) (c : Nat) (vs : List V) : Prop := ∃ ci, Z.cls.l[c]? = some ci ∧ vs.length ≤ ci.names.length ∧ dx ≠ a ∧
  if ci.slotted then (∃ ws, SlX.Slt H a ci.C dx ws ∧ ∀ (k : Nat) (v : V), vs[k]? = some v → ws[ci.ix.getD k 0]? = some (some v)) else H a = some (.ins ci.C dx (ci.names.zip vs)) ∧ H dx = some (.own a)
/-- a caught error of class c at a, its fields off its own dict -/
def XAt (Z : Zx) (H : Hp) (a : Addr) (c : Nat) (vs : List V) : Prop := ∃ C names d, Z.exc[c]? = some (C, names) ∧ (a, C, d) ∈ Z.cls.xl ∧ vs.length = names.length ∧
  ((names = [] ∧ d = none) ∨ ∃ dd l, d = some dd ∧ H dd = some (.xd l) ∧ ∀ (k : Nat) (f : Str) (v : V), names[k]? = some f → vs[k]? = some v → l.lookup f = some v)
mutual
inductive Rep (Z : Zx) (F : Hp) : D → V → Prop
  | non : Rep Z F .non .non
  | bl (b : Bool) : Rep Z F (.bl b) (.bl b)
  | int (i : Int) : Rep Z F (.int i) (.int i)
  | str (s : Str) : Rep Z F (.str s) (.str s)
  | tup {a : Addr} {xs : List V} {ds : List D} : SqN Z.K F a xs → RepL Z F ds xs → Rep Z F (.tup ds) (.ref a)
  | lst {a : Addr} {xs : List V} {ds : List D} : F a = some (.lst xs) → RepL Z F ds xs → Rep Z F (.lst ds) (.ref a)
  | dct {d : Addr} {o : Obj} {es : Array DictEntry} {ep : Nat} {kvs : List (D × D)} : DcO F d o es ep → RepE Z F kvs es.toList → (kvs.map fun p => keyOk p.1).Nodup → kvs.length ≤ sizeLine → Rep Z F (.dct kvs) (.ref d)
  | obj {a dx : Addr} {c : Nat} {vs : List V} {ds : List D} : ObjAt Z F a dx c vs → RepL Z F ds vs → Rep Z F (.obj c ds) (.ref a)
  | exn {a : Addr} {c : Nat} {vs : List V} {ds : List D} : XAt Z F a c vs → RepL Z F ds vs → Rep Z F (.exn c ds) (.ref a)
inductive RepL (Z : Zx) (F : Hp) : List D → List V → Prop
  | nil : RepL Z F [] []
  | cons {d : D} {v : V} {ds : List D} {vs : List V} : Rep Z F d v → RepL Z F ds vs → RepL Z F (d :: ds) (v :: vs)
inductive RepE (Z : Zx) (F : Hp) : List (D × D) → List DictEntry → Prop
  | nil : RepE Z F [] []
  | cons {k v : D} {e : DictEntry} {kv vv : V} {n : NestedKey} {r : List (D × D)} {es : List DictEntry} : keyOk k = some n → e.hash = n.hash Z.w → RelV kv e.key → Rep Z F k kv → RelV vv e.val → Rep Z F v vv →
      RepE Z F r es → RepE Z F ((k, v) :: r) (e :: es)
end
section
variable {Z : Zx} {F F' H H' : Hp}
theorem Same.tup {K : PySem.W.Frag} {a : Addr} {xs : List V} (e : Same F F') (h : SqN K F a xs) : SqN K F' a xs := by
  rcases h with ⟨o, h, hd⟩ | h
  · exact .inl ⟨o, e _ _ h, hd⟩
  · exact .inr h
theorem DcO.mono {d : Addr} {o : Obj} {es : Array DictEntry} {ep : Nat} (h : DcO F d o es ep) (e : F d = F' d) : DcO F' d o es ep := ⟨e ▸ h.at_, h.ex, h.dat, h.sys⟩
theorem ObjAt.mono {a dx : Addr} {c : Nat} {vs : List V} (h : ObjAt Z F a dx c vs) (e1 : F a = F' a) (e2 : F dx = F' dx) : ObjAt Z F' a dx c vs := by
  obtain ⟨ci, h1, h2, h3, h4⟩ := h
  refine ⟨ci, h1, h2, h3, ?_⟩
  split at h4
  · rename_i hs
    rw [if_pos hs]
    obtain ⟨ws, h4, h5⟩ := h4
    refine ⟨ws, ?_, h5⟩
    unfold SlX.Slt at h4 ⊢
    rw [← e1, ← e2]
    exact h4
  · rename_i hs
    rw [if_neg hs, ← e1, ← e2]
    exact h4
theorem ObjAt.some {a dx : Addr} {c : Nat} {vs : List V} (h : ObjAt Z F a dx c vs) : (∃ o, F a = some o) := by
  obtain ⟨ci, h1, h2, h3, h4⟩ := h
  split at h4
  · obtain ⟨ws, h4, _⟩ := h4
    rcases h4 with ⟨h4, _⟩ | ⟨h4, _⟩ <;> exact ⟨_, h4⟩
  · exact ⟨_, h4.1⟩
theorem ObjAt.same {a dx : Addr} {c : Nat} {vs : List V} (h : ObjAt Z F a dx c vs) (e : Same F F') : ObjAt Z F' a dx c vs := by
  obtain ⟨ci, h1, h2, h3, h4⟩ := h
  refine ⟨ci, h1, h2, h3, ?_⟩
  split at h4
  · rename_i hs
    rw [if_pos hs]
    obtain ⟨ws, h4, h6⟩ := h4
    refine ⟨ws, ?_, h6⟩
    rcases h4 with ⟨h4, h5⟩ | ⟨h4, h5⟩
    · exact .inl ⟨e _ _ h4, h5⟩
    · exact .inr ⟨e _ _ h4, e _ _ h5⟩
  · rename_i hs
    rw [if_neg hs]
    exact ⟨e _ _ h4.1, e _ _ h4.2⟩
theorem XAt.same {a : Addr} {c : Nat} {vs : List V} (h : XAt Z F a c vs) (e : Same F F') : XAt Z F' a c vs := by
  obtain ⟨C, names, d, h1, h2, h3, h4⟩ := h
  refine ⟨C, names, d, h1, h2, h3, h4.imp id ?_⟩
  rintro ⟨dd, l, q1, q2, q3⟩
  exact ⟨dd, l, q1, e _ _ q2, q3⟩
mutual
theorem Rep.mono (e : Same F F') : ∀ {d : D} {v : V}, Rep Z F d v → Rep Z F' d v
  | _, _, .non => .non
  | _, _, .bl b => .bl b
  | _, _, .int i => .int i
  | _, _, .str s => .str s
  | _, _, .tup h r => .tup (Same.tup e h) (RepL.mono e r)
  | _, _, .lst h r => .lst (e _ _ h) (RepL.mono e r)
  | _, _, .dct h r n z => .dct ⟨e _ _ h.at_, h.ex, h.dat, h.sys⟩ (RepE.mono e r) n z
  | _, _, .obj h r => .obj (h.same e) (RepL.mono e r)
  | _, _, .exn h r => .exn (h.same e) (RepL.mono e r)
theorem RepL.mono (e : Same F F') : ∀ {ds : List D} {vs : List V}, RepL Z F ds vs → RepL Z F' ds vs
  | _, _, .nil => .nil
  | _, _, .cons h r => .cons (Rep.mono e h) (RepL.mono e r)
theorem RepE.mono (e : Same F F') : ∀ {kvs : List (D × D)} {es : List DictEntry}, RepE Z F kvs es → RepE Z F' kvs es
  | _, _, .nil => .nil
  | _, _, .cons h1 h3 h4 h5 h6 h7 r => .cons h1 h3 h4 (Rep.mono e h5) h6 (Rep.mono e h7) (RepE.mono e r)
end
theorem RepL.length : ∀ {ds : List D} {vs : List V}, RepL Z F ds vs → ds.length = vs.length
  | _, _, .nil => rfl
  | _, _, .cons _ r => by rw [List.length_cons, List.length_cons, r.length]
theorem RepL.get : ∀ {ds : List D} {vs : List V} {i : Nat} {d : D}, RepL Z F ds vs → ds[i]? = some d → ∃ v, vs[i]? = some v ∧ Rep Z F d v
  | _, _, _, _, .nil, e => by simp at e
  | _, _, 0, _, .cons h _, e => by
    simp only [List.getElem?_cons_zero, Option.some.injEq] at e
    exact ⟨_, by simp, e ▸ h⟩
  | _, _, i + 1, d, .cons _ r, e => by
    obtain ⟨v, h1, h2⟩ := r.get (i := i) (d := d) (by simpa using e)
    exact ⟨v, by simpa using h1, h2⟩
theorem RepL.getV : ∀ {ds : List D} {vs : List V} {i : Nat} {v : V}, RepL Z F ds vs → vs[i]? = some v → ∃ d, ds[i]? = some d ∧ Rep Z F d v
  | _, _, _, _, .nil, e => by simp at e
  | _, _, 0, _, .cons h _, e => by
    simp only [List.getElem?_cons_zero, Option.some.injEq] at e
    exact ⟨_, by simp, e ▸ h⟩
  | _, _, i + 1, d, .cons _ r, e => by
    obtain ⟨v, h1, h2⟩ := r.getV (i := i) (v := d) (by simpa using e)
    exact ⟨v, by simpa using h1, h2⟩
theorem RepL.append : ∀ {ds es : List D} {vs ws : List V}, RepL Z F ds vs → RepL Z F es ws → RepL Z F (ds ++ es) (vs ++ ws)
  | _, _, _, _, .nil, s => s
  | _, _, _, _, .cons h r, s => .cons h (r.append s)
theorem RepL.take : ∀ (n : Nat) {ds : List D} {vs : List V}, RepL Z F ds vs → RepL Z F (ds.take n) (vs.take n)
  | 0, _, _, _ => .nil
  | _ + 1, _, _, .nil => .nil
  | n + 1, _, _, .cons h r => .cons h (r.take n)
theorem RepL.drop : ∀ (n : Nat) {ds : List D} {vs : List V}, RepL Z F ds vs → RepL Z F (ds.drop n) (vs.drop n)
  | 0, _, _, r => r
  | _ + 1, _, _, .nil => .nil
  | n + 1, _, _, .cons _ r => r.drop n
theorem RepL.set : ∀ (n : Nat) {ds : List D} {vs : List V} {d : D} {v : V}, RepL Z F ds vs → Rep Z F d v → RepL Z F (ds.set n d) (vs.set n v)
  | _, _, _, _, _, .nil, _ => .nil
  | 0, _, _, _, _, .cons _ r, h => .cons h r
  | n + 1, _, _, _, _, .cons k r, h => .cons k (r.set n h)
theorem RepL.one {d : D} {v : V} (h : Rep Z F d v) : RepL Z F [d] [v] := .cons h .nil
theorem RepL.rev : ∀ {ds : List D} {vs : List V}, RepL Z F ds vs → RepL Z F ds.reverse vs.reverse
  | _, _, .nil => .nil
  | _, _, .cons h r => by
    rw [List.reverse_cons, List.reverse_cons]
    exact r.rev.append (.one h)
theorem RepL.eraseIdx : ∀ (n : Nat) {ds : List D} {vs : List V}, RepL Z F ds vs → RepL Z F (ds.eraseIdx n) (vs.eraseIdx n)
  | _, _, _, .nil => .nil
  | 0, _, _, .cons _ r => r
  | n + 1, _, _, .cons k r => .cons k (r.eraseIdx n)
theorem RepE.length : ∀ {kvs : List (D × D)} {es : List DictEntry}, RepE Z F kvs es → kvs.length = es.length
  | _, _, .nil => rfl
  | _, _, .cons _ _ _ _ _ _ r => by rw [List.length_cons, List.length_cons, r.length]

/-! ### things of one's own -/
def OwnAt (Z : Zx) (F H : Hp) (p : Addr) : D → List Addr → Prop
  | .lst ds, fp => fp = [p] ∧ ∃ xs, H p = some (.lst xs) ∧ xs.length ≤ sizeLine ∧ RepL Z F ds xs
  | .dct kvs, fp => fp = [p] ∧ ∃ o es ep, DcO H p o es ep ∧ RepE Z F kvs es.toList ∧ (kvs.map fun p => keyOk p.1).Nodup ∧ kvs.length ≤ sizeLine
  | .obj c ds, fp => ∃ dx vs, fp = [p, dx] ∧ (∃ o, H dx = some o) ∧ ObjAt Z H p dx c vs ∧ RepL Z F ds vs
  | .rng gp st cells ix, fp => gp = p ∧ ∃ q, fp = [p, q] ∧ q ≠ p ∧ H p = some (.lst [.int st, .ref q, .int ix, .int 14]) ∧ H q = some (.lst (cells.map V.int))
  | _, _ => False
theorem OwnAt.mono {p : Addr} {d : D} {fp : List Addr} (h : OwnAt Z F H p d fp) (e : Same F F') (k : ∀ a ∈ fp, H' a = H a) : OwnAt Z F' H' p d fp := by
  cases d with
  | lst ds =>
    obtain ⟨rfl, xs, h1, hz, h2⟩ := h
    exact ⟨rfl, xs, (k p (by simp)).trans h1, hz, h2.mono e⟩
  | dct kvs =>
    obtain ⟨rfl, o, es, ep, h1, h2, h3⟩ := h
    exact ⟨rfl, o, es, ep, h1.mono (k p (by simp)).symm, h2.mono e, h3⟩
  | obj c ds =>
    obtain ⟨dx, vs, rfl, ho, h1, h2⟩ := h
    exact ⟨dx, vs, rfl, by rw [k dx (by simp)]; exact ho, h1.mono (k p (by simp)).symm (k dx (by simp)).symm, h2.mono e⟩
  | rng gp st cells ix =>
    obtain ⟨hg, q, rfl, h0, h1, h2⟩ := h
    exact ⟨hg, q, rfl, h0, (k p (by simp)).trans h1, (k q (by simp)).trans h2⟩
  | _ => exact h.elim
theorem OwnAt.some {p : Addr} {d : D} {fp : List Addr} (h : OwnAt Z F H p d fp) : p ∈ fp ∧ ∀ a ∈ fp, ∃ o, H a = some o := by
  cases d with
  | lst ds =>
    obtain ⟨rfl, xs, h1, hz, h2⟩ := h
    exact ⟨by simp, fun a ha => by rw [List.mem_singleton.mp ha]; exact ⟨_, h1⟩⟩
  | dct kvs =>
    obtain ⟨rfl, o, es, ep, h1, h2⟩ := h
    exact ⟨by simp, fun a ha => by rw [List.mem_singleton.mp ha]; exact ⟨_, h1.at_⟩⟩
  | obj c ds =>
    obtain ⟨dx, vs, rfl, ho, h1, h2⟩ := h
    refine ⟨by simp, fun a ha => ?_⟩
    rcases List.mem_cons.mp ha with e | e
    · rw [e]; exact h1.some
    · rw [List.mem_singleton.mp e]; exact ho
  | rng gp st cells ix =>
    obtain ⟨hg, q, rfl, h0, h1, h2⟩ := h
    refine ⟨by simp, fun a ha => ?_⟩
    rcases List.mem_cons.mp ha with e | e
    · rw [e]; exact ⟨_, h1⟩
    · rw [List.mem_singleton.mp e]; exact ⟨_, h2⟩
  | _ => exact h.elim
/-- as plain data in the whole heap -/
theorem OwnAt.rep {p : Addr} {d : D} {fp : List Addr} (h : OwnAt Z F H p d fp) (e : Same F H) (hf : freezable d = true) : Rep Z H d (.ref p) := by
  cases d with
  | lst ds =>
    obtain ⟨rfl, xs, h1, hz, h2⟩ := h
    exact .lst h1 (h2.mono e)
  | dct kvs =>
    obtain ⟨rfl, o, es, ep, h1, h2, h3, h4⟩ := h
    exact .dct h1 (h2.mono e) h3 h4
  | obj c ds =>
    obtain ⟨dx, vs, rfl, ho, h1, h2⟩ := h
    exact .obj h1 (h2.mono e)
  | rng gp st cells ix => cases hf
  | _ => exact h.elim
/-- frozen: fp joins F -/
def frz (F H : Hp) (fp : List Addr) : Hp := fun a => if a ∈ fp then H a else F a
theorem frz_in {fp : List Addr} {a : Addr} (h : a ∈ fp) : frz F H fp a = H a := if_pos h
theorem frz_out {fp : List Addr} {a : Addr} (h : a ∉ fp) : frz F H fp a = F a := if_neg h
theorem frz_same {fp : List Addr} (e : Same F H) : Same F (frz F H fp) := fun a o h => by
  by_cases ha : a ∈ fp
  · rw [frz_in ha]; exact e a o h
  · rw [frz_out ha]; exact h
theorem frz_sub {fp : List Addr} (e : Same F H) : Same (frz F H fp) H := fun a o h => by
  by_cases ha : a ∈ fp
  · rw [frz_in ha] at h; exact h
  · rw [frz_out ha] at h; exact e a o h
theorem OwnAt.frozen {p : Addr} {d : D} {fp : List Addr} (h : OwnAt Z F H p d fp) (e : Same F H) (hf : freezable d = true) : Rep Z (frz F H fp) d (.ref p) := by
  have s := frz_same (fp := fp) e
  cases d with
  | lst ds =>
    obtain ⟨rfl, xs, h1, hz, h2⟩ := h
    exact .lst ((frz_in (by simp)).trans h1) (h2.mono s)
  | dct kvs =>
    obtain ⟨rfl, o, es, ep, h1, h2, h3, h4⟩ := h
    exact .dct (h1.mono (frz_in (by simp)).symm) (h2.mono s) h3 h4
  | obj c ds =>
    obtain ⟨dx, vs, rfl, ho, h1, h2⟩ := h
    exact .obj (h1.mono (frz_in (by simp)).symm (frz_in (by simp)).symm) (h2.mono s)
  | rng gp st cells ix => cases hf
  | _ => exact h.elim
end

/-- nothing pinned -/
abbrev Zx.un (Z : Zx) : Zx := ⟨Z.P, Z.w, Z.K, ⟨Z.cls.l, [], Z.cls.xl⟩, Z.exc⟩
/-- other pins -/
abbrev Zx.re (Z : Zx) (ps : List (Nat × Addr)) : Zx := ⟨Z.P, Z.w, Z.K, ⟨Z.cls.l, ps, Z.cls.xl⟩, Z.exc⟩
section
variable {Z : Zx} {F H : Hp} {ps : List (Nat × Addr)}
mutual
theorem Rep.re : ∀ {d : D} {v : V}, Rep Z F d v → Rep (Z.re ps) F d v
  | _, _, .non => .non
  | _, _, .bl b => .bl b
  | _, _, .int i => .int i
  | _, _, .str s => .str s
  | _, _, .tup h r => .tup h (RepL.re r)
  | _, _, .lst h r => .lst h (RepL.re r)
  | _, _, .dct h r n z => .dct h (RepE.re r) n z
  | _, _, .obj h r => .obj h (RepL.re r)
  | _, _, .exn h r => .exn h (RepL.re r)
theorem RepL.re : ∀ {ds : List D} {vs : List V}, RepL Z F ds vs → RepL (Z.re ps) F ds vs
  | _, _, .nil => .nil
  | _, _, .cons h r => .cons (Rep.re h) (RepL.re r)
theorem RepE.re : ∀ {kvs : List (D × D)} {es : List DictEntry}, RepE Z F kvs es → RepE (Z.re ps) F kvs es
  | _, _, .nil => .nil
  | _, _, .cons h1 h3 h4 h5 h6 h7 r => .cons h1 h3 h4 (Rep.re h5) h6 (Rep.re h7) (RepE.re r)
end
theorem OwnAt.re {p : Addr} {d : D} {fp : List Addr} (h : OwnAt Z F H p d fp) : OwnAt (Z.re ps) F H p d fp := by
  cases d with
  | lst ds =>
    obtain ⟨rfl, xs, h1, hz, h2⟩ := h
    exact ⟨rfl, xs, h1, hz, h2.re⟩
  | dct kvs =>
    obtain ⟨rfl, o, es, ep, h1, h2, h3⟩ := h
    exact ⟨rfl, o, es, ep, h1, h2.re, h3⟩
  | obj c ds =>
    obtain ⟨dx, vs, rfl, ho, h1, h2⟩ := h
    exact ⟨dx, vs, rfl, ho, h1, h2.re⟩
  | rng gp st cells ix => exact h
  | _ => exact h.elim
end
/-! ### slots -/
def PinOk (Z : Zx) (σ : L2.St) : Prop := ∀ ip ∈ Z.cls.pins, σ[ip.1]? = some (some (.ref ip.2))
/-- slot i is not pinned -/
def NoPin (cls : Clz) (i : Nat) : Prop := (cls.pins.all fun ip => ip.1 != i) = true
theorem NoPin.ne {cls : Clz} {i : Nat} (n : NoPin cls i) : ∀ ip ∈ cls.pins, ip.1 ≠ i := fun ip h => by
  have := List.all_eq_true.mp n ip h
  simpa using this
theorem PinOk.un {Z : Zx} {σ : L2.St} : PinOk Z.un σ := fun _ h => nomatch h
theorem PinOk.set {Z : Zx} {σ : L2.St} {i : Nat} {v : Option V} (h : PinOk Z σ) (n : NoPin Z.cls i) : PinOk Z (σ.set i v) := fun ip hm => by
  rw [List.getElem?_set_ne (Ne.symm (n.ne ip hm))]
  exact h ip hm
structure Rel (Z : Zx) (r : Fr) (σ : L2.St) (F H : Hp) (fp : Nat → List Addr) : Prop where
  pin : PinOk Z σ
  same : Same F H
  len : r.length = σ.length
  fro : ∀ (i : Nat) (d : D), r[i]? = some (some (false, d)) → ∃ v, σ[i]? = some (some v) ∧ Rep Z F d v
  own : ∀ (i : Nat) (d : D), r[i]? = some (some (true, d)) → ∃ p, σ[i]? = some (some (.ref p)) ∧ OwnAt Z F H p d (fp i) ∧ ∀ a ∈ fp i, F a = none
  dis : ∀ (i j : Nat) (d e : D), i ≠ j → r[i]? = some (some (true, d)) → r[j]? = some (some (true, e)) → ∀ a ∈ fp i, a ∉ fp j
def OwnS (r : Fr) (fp : Nat → List Addr) (a : Addr) : Prop := ∃ (i : Nat) (d : D), r[i]? = some (some (true, d)) ∧ a ∈ fp i
structure Ext (r : Fr) (fp : Nat → List Addr) (F H : Hp) (r' : Fr) (fp' : Nat → List Addr) (F' H' : Hp) : Prop where
  sF : Same F F'
  new : ∀ a o, F' a = some o → F a = none → H a = none ∨ OwnS r fp a
  keep : ∀ a o, H a = some o → ¬ OwnS r fp a → H' a = some o
  shr : ∀ a, OwnS r' fp' a → H a = none ∨ OwnS r fp a
section
variable {Z : Zx} {r r' r2 : Fr} {σ : L2.St} {F F' F2 H H' H2 : Hp} {fp fp' fp2 : Nat → List Addr}
theorem Ext.refl (r : Fr) (fp : Nat → List Addr) (F H : Hp) : Ext r fp F H r fp F H := ⟨Same.refl F, fun a o h1 h2 => (by rw [h2] at h1; cases h1), fun _ _ h _ => h, fun _ h => .inr h⟩
theorem Ext.back (x : Ext r fp F H r' fp' F' H') {a : Addr} (h : H' a = none ∨ OwnS r' fp' a) : H a = none ∨ OwnS r fp a := by
  rcases h with h | h
  · by_cases ho : OwnS r fp a
    · exact .inr ho
    · cases e : H a with
      | none => exact .inl rfl
      | some o =>
        rw [x.keep a o e ho] at h
        cases h
  · exact x.shr a h
theorem Ext.trans (x : Ext r fp F H r' fp' F' H') (y : Ext r' fp' F' H' r2 fp2 F2 H2) : Ext r fp F H r2 fp2 F2 H2 where
  sF := x.sF.trans y.sF
  new := fun a o h1 h2 => by
    cases e : F' a with
    | some u => exact x.new a u e h2
    | none => exact x.back (y.new a o h1 e)
  keep := fun a o h1 h2 => by
    have e1 := x.keep a o h1 h2
    refine y.keep a o e1 fun h3 => ?_
    rcases x.shr a h3 with h | h
    · rw [h1] at h; cases h
    · exact h2 h
  shr := fun a h => x.back (y.shr a h)
/-- a value: its things that no slot has are at fr -/
def VR (Z : Zx) (r : Fr) (σ : L2.St) (F H : Hp) (fp : Nat → List Addr) (v : V) (fr : List Addr) : Vl → Prop
  | .fro d => fr = [] ∧ Rep Z F d v
  | .own d => ∃ p, v = .ref p ∧ OwnAt Z F H p d fr ∧ ∀ a ∈ fr, F a = none ∧ ¬ OwnS r fp a
  | .var i => fr = [] ∧ σ[i]? = some (some v)
theorem VR.ext {v : V} {fr : List Addr} {x : Vl} (h : VR Z r σ F H fp v fr x) (e : Ext r fp F H r' fp' F' H') : VR Z r' σ F' H' fp' v fr x := by
  cases x with
  | fro d => exact ⟨h.1, h.2.mono e.sF⟩
  | var i => exact h
  | own d =>
    obtain ⟨p, hv, ho, hn⟩ := h
    have hs := ho.some
    refine ⟨p, hv, ho.mono e.sF fun a ha => ?_, fun a ha => ⟨?_, fun z => ?_⟩⟩
    · obtain ⟨o, eo⟩ := hs.2 a ha
      rw [eo]
      exact e.keep a o eo (hn a ha).2
    · cases q : F' a with
      | none => rfl
      | some o =>
        obtain ⟨u, eu⟩ := hs.2 a ha
        rcases e.new a o q (hn a ha).1 with z | z
        · rw [eu] at z; cases z
        · exact absurd z (hn a ha).2
    · obtain ⟨u, eu⟩ := hs.2 a ha
      rcases e.shr a z with z | z
      · rw [eu] at z; cases z
      · exact absurd z (hn a ha).2
/-- what a value is, now, in the whole heap -/
theorem VR.rep (R : Rel Z r σ F H fp) {v : V} {fr : List Addr} {x : Vl} (h : VR Z r σ F H fp v fr x) {d : D} (g : x.get r = some d) (hf : freezable d = true) : Rep Z H d v := by
  cases x with
  | fro e =>
    cases g
    exact h.2.mono R.same
  | own e =>
    cases g
    obtain ⟨p, rfl, ho, _⟩ := h
    exact ho.rep R.same hf
  | var i =>
    have g' : slotD r i = some d := g
    unfold slotD at g'
    split at g'
    · rename_i b d' e
      cases g'
      cases b with
      | false =>
        obtain ⟨v', e1, e2⟩ := R.fro i d e
        rw [h.2] at e1; cases e1
        exact e2.mono R.same
      | true =>
        obtain ⟨p, e1, e2, _⟩ := R.own i d e
        rw [h.2] at e1; cases e1
        exact e2.rep R.same hf
    · cases g'
end
end VL
end
section
/-! V5: values lent, taken, put; what an evaluation is worth. -/
namespace VL
open PySem PySem.Spec PyProof.Rows L2

section
variable {Z : Zx} {r r' r2 : Fr} {σ : L2.St} {F F' F2 H H' H2 : Hp} {fp fp' fp2 : Nat → List Addr}
/-- values in a row: their new things stand apart -/
def VRL (Z : Zx) (r : Fr) (σ : L2.St) (F H : Hp) (fp : Nat → List Addr) : List V → List Addr → List Vl → Prop
  | [], fr, [] => fr = []
  | v :: vs, fr, x :: xs => ∃ f1 f2, fr = f1 ++ f2 ∧ VR Z r σ F H fp v f1 x ∧ VRL Z r σ F H fp vs f2 xs ∧ ∀ a ∈ f1, a ∉ f2
  | _, _, _ => False
theorem VRL.ext (e : Ext r fp F H r' fp' F' H') : ∀ {vs : List V} {fr : List Addr} {xs : List Vl}, VRL Z r σ F H fp vs fr xs → VRL Z r' σ F' H' fp' vs fr xs
  | [], _, [], h => h
  | _ :: _, _, _ :: _, ⟨f1, f2, e1, h1, h2, h3⟩ => ⟨f1, f2, e1, h1.ext e, VRL.ext e h2, h3⟩
  | [], _, _ :: _, h => h.elim
  | _ :: _, _, [], h => h.elim
theorem VRL.length : ∀ {vs : List V} {fr : List Addr} {xs : List Vl}, VRL Z r σ F H fp vs fr xs → vs.length = xs.length
  | [], _, [], _ => rfl
  | _ :: _, _, _ :: _, ⟨f1, f2, e1, h1, h2, h3⟩ => by rw [List.length_cons, List.length_cons, VRL.length h2]
  | [], _, _ :: _, h => h.elim
  | _ :: _, _, [], h => h.elim
theorem VR.fresh {v : V} {fr : List Addr} {x : Vl} (h : VR Z r σ F H fp v fr x) : ∀ a ∈ fr, F a = none ∧ ¬ OwnS r fp a ∧ ∃ o, H a = some o := by
  cases x with
  | fro d => rw [h.1]; exact fun a ha => nomatch ha
  | var i => rw [h.1]; exact fun a ha => nomatch ha
  | own d =>
    obtain ⟨p, _, ho, hn⟩ := h
    exact fun a ha => ⟨(hn a ha).1, (hn a ha).2, ho.some.2 a ha⟩
theorem slot_len {i : Nat} {x : Option (Bool × D)} (h : r[i]? = some x) : i < r.length := (List.getElem?_eq_some_iff.mp h).1
theorem OwnS.unset {i : Nat} {x : Option (Bool × D)} (hx : ∀ d, x ≠ some (true, d)) {a : Addr} (h : OwnS (r.set i x) fp a) : ∃ (j : Nat) (d : D), j ≠ i ∧ r[j]? = some (some (true, d)) ∧ a ∈ fp j := by
  obtain ⟨j, d, e, ha⟩ := h
  by_cases hj : i = j
  · subst hj
    by_cases hl : i < r.length
    · rw [List.getElem?_set_self hl] at e
      exact absurd (Option.some.inj e) (hx d)
    · rw [List.getElem?_eq_none (by rw [List.length_set]; omega)] at e
      cases e
  · rw [List.getElem?_set_ne hj] at e
    exact ⟨j, d, fun z => hj z.symm, e, ha⟩
theorem OwnS.set_sub {i : Nat} {x : Option (Bool × D)} (hx : ∀ d, x ≠ some (true, d)) {a : Addr} (h : OwnS (r.set i x) fp a) : OwnS r fp a := by
  obtain ⟨j, d, _, e, ha⟩ := OwnS.unset hx h
  exact ⟨j, d, e, ha⟩
/-- a slot that was of one's own is frozen, its things join F -/
theorem Rel.freeze (R : Rel Z r σ F H fp) {i : Nat} {d : D} (hi : r[i]? = some (some (true, d))) (hf : freezable d = true) : Rel Z (r.set i (some (false, d))) σ (frz F H (fp i)) H fp ∧
    ∃ v, σ[i]? = some (some v) ∧ Rep Z (frz F H (fp i)) d v := by
  obtain ⟨p, hp, ho, hn⟩ := R.own i d hi
  have sf := frz_same (fp := fp i) R.same
  have hr : Rep Z (frz F H (fp i)) d (.ref p) := ho.frozen R.same hf
  have hil := slot_len hi
  refine ⟨⟨R.pin, frz_sub R.same, by rw [List.length_set]; exact R.len, fun j e h => ?_, fun j e h => ?_, fun j k e e' hjk h1 h2 => ?_⟩, .ref p, hp, hr⟩
  · by_cases hj : i = j
    · subst hj
      rw [List.getElem?_set_self hil] at h
      cases h
      exact ⟨_, hp, hr⟩
    · rw [List.getElem?_set_ne hj] at h
      obtain ⟨v, h1, h2⟩ := R.fro j e h
      exact ⟨v, h1, h2.mono sf⟩
  · by_cases hj : i = j
    · subst hj
      rw [List.getElem?_set_self hil] at h
      cases h
    · rw [List.getElem?_set_ne hj] at h
      obtain ⟨q, h1, h2, h3⟩ := R.own j e h
      refine ⟨q, h1, h2.mono sf fun _ _ => rfl, fun a ha => ?_⟩
      rw [frz_out (R.dis j i e d (fun z => hj z.symm) h hi a ha)]
      exact h3 a ha
  · have n1 : i ≠ j := fun z => by
      subst z
      rw [List.getElem?_set_self hil] at h1
      cases h1
    have n2 : i ≠ k := fun z => by
      subst z
      rw [List.getElem?_set_self hil] at h2
      cases h2
    rw [List.getElem?_set_ne n1] at h1
    rw [List.getElem?_set_ne n2] at h2
    exact R.dis j k e e' hjk h1 h2
/-- things that no slot has join F -/
theorem Rel.join (R : Rel Z r σ F H fp) {fr : List Addr} (hn : ∀ a ∈ fr, ¬ OwnS r fp a) : Rel Z r σ (frz F H fr) H fp := by
  have sf := frz_same (fp := fr) R.same
  refine ⟨R.pin, frz_sub R.same, R.len, fun j e h => ?_, fun j e h => ?_, R.dis⟩
  · obtain ⟨v, h1, h2⟩ := R.fro j e h
    exact ⟨v, h1, h2.mono sf⟩
  · obtain ⟨q, h1, h2, h3⟩ := R.own j e h
    refine ⟨q, h1, h2.mono sf fun _ _ => rfl, fun a ha => ?_⟩
    rw [frz_out fun z => hn a z ⟨j, e, h, ha⟩]
    exact h3 a ha
/-- a slot is forgotten -/
theorem Rel.drop (R : Rel Z r σ F H fp) (i : Nat) : Rel Z (r.set i none) σ F H fp := by
  have sub : ∀ {j : Nat} {b : Bool} {e : D}, (r.set i none)[j]? = some (some (b, e)) → i ≠ j ∧ r[j]? = some (some (b, e)) := fun {j b e} h => by
    by_cases hj : i = j
    · subst hj
      by_cases hl : i < r.length
      · rw [List.getElem?_set_self hl] at h; cases h
      · rw [List.getElem?_eq_none (by rw [List.length_set]; omega)] at h; cases h
    · rw [List.getElem?_set_ne hj] at h
      exact ⟨hj, h⟩
  exact ⟨R.pin, R.same, by rw [List.length_set]; exact R.len, fun j e h => R.fro j e (sub h).2, fun j e h => R.own j e (sub h).2, fun j k e e' hjk h1 h2 => R.dis j k e e' hjk (sub h1).2 (sub h2).2⟩
/-- F has grown by things of the slots' or of fr's -/
structure Grew (r : Fr) (fp : Nat → List Addr) (fr : List Addr) (F : Hp) (r' : Fr) (F' : Hp) : Prop where
  sF : Same F F'
  new : ∀ a o, F' a = some o → F a = none → (OwnS r fp a ∧ ¬ OwnS r' fp a) ∨ a ∈ fr
  shr : ∀ a, OwnS r' fp a → OwnS r fp a
theorem Grew.refl : Grew r fp [] F r F := ⟨Same.refl F, fun a o h1 h2 => (by rw [h2] at h1; cases h1), fun _ h => h⟩
theorem Grew.ext {fr : List Addr} (g : Grew r fp fr F r' F') (hf : ∀ a ∈ fr, OwnS r2 fp2 a ∨ H2 a = none) (x : Ext r2 fp2 F2 H2 r fp F H) : Ext r2 fp2 F2 H2 r' fp F' H where
  sF := x.sF.trans g.sF
  new := fun a o h1 h2 => by
    cases e : F a with
    | some u => exact x.new a u e h2
    | none =>
      rcases g.new a o h1 e with z | z
      · exact x.back (.inr z.1)
      · exact (hf a z).symm
  keep := x.keep
  shr := fun a h => x.shr a (g.shr a h)
theorem Vl.take_ok (R : Rel Z r σ F H fp) {v : V} {fr : List Addr} {x : Vl} (h : VR Z r σ F H fp v fr x) {d : D} (t : x.take r = some (d, r')) :
    ∃ F', Rel Z r' σ F' H fp ∧ Rep Z F' d v ∧ Grew r fp fr F r' F' ∧ r'.length = r.length := by
  cases x with
  | fro e =>
    have t' : some (e, r) = some (d, r') := t
    cases t'
    obtain ⟨rfl, h⟩ := h
    exact ⟨F, R, h, .refl, rfl⟩
  | own e =>
    unfold Vl.take at t
    dsimp only at t
    split at t
    · rename_i hf
      cases t
      obtain ⟨p, rfl, ho, hn⟩ := h
      refine ⟨frz F H fr, R.join fun a ha => (hn a ha).2, ho.frozen R.same hf, ⟨frz_same R.same, fun a o h1 h2 => .inr ?_, fun _ h => h⟩, rfl⟩
      by_cases ha : a ∈ fr
      · exact ha
      · rw [frz_out ha, h2] at h1; cases h1
    · cases t
  | var i =>
    obtain ⟨rfl, hv⟩ := h
    unfold Vl.take at t
    dsimp only at t
    split at t
    · rename_i b e hi
      split at t
      · rename_i hf
        cases t
        have hil := slot_len hi
        cases b with
        | true =>
          obtain ⟨R', v', e1, e2⟩ := R.freeze hi hf
          rw [hv] at e1; cases e1
          refine ⟨_, R', e2, ⟨frz_same R.same, fun a o h1 h2 => ?_, fun a z => OwnS.set_sub (fun _ q => by cases q) z⟩, by rw [List.length_set]⟩
          by_cases ha : a ∈ fp i
          · refine .inl ⟨⟨i, d, hi, ha⟩, fun z => ?_⟩
            obtain ⟨j, e, hj, ej, haj⟩ := OwnS.unset (fun _ q => by cases q) z
            exact R.dis j i e d hj ej hi a haj ha
          · rw [frz_out ha, h2] at h1; cases h1
        | false =>
          have er : r.set i (some (false, d)) = r := by
            apply List.ext_getElem?
            intro j
            by_cases hj : i = j
            · subst hj; rw [List.getElem?_set_self hil, hi]
            · rw [List.getElem?_set_ne hj]
          rw [er]
          obtain ⟨v', e1, e2⟩ := R.fro i d hi
          rw [hv] at e1; cases e1
          exact ⟨F, R, e2, .refl, rfl⟩
      · cases t
    · cases t

/-- other new things stay apart -/
theorem VR.grew {v : V} {fr fr' : List Addr} {x : Vl} (h : VR Z r σ F H fp v fr x) (g : Grew r fp fr' F r' F') (hd : ∀ a ∈ fr', a ∉ fr) : VR Z r' σ F' H fp v fr x := by
  cases x with
  | fro d => exact ⟨h.1, h.2.mono g.sF⟩
  | var i => exact h
  | own d =>
    obtain ⟨p, hv, ho, hn⟩ := h
    refine ⟨p, hv, ho.mono g.sF fun _ _ => rfl, fun a ha => ⟨?_, fun z => (hn a ha).2 (g.shr a z)⟩⟩
    cases q : F' a with
    | none => rfl
    | some o =>
      rcases g.new a o q (hn a ha).1 with z | z
      · exact absurd z.1 (hn a ha).2
      · exact absurd ha (hd a z)
theorem VRL.grew {fr' : List Addr} (g : Grew r fp fr' F r' F') : ∀ {vs : List V} {fr : List Addr} {xs : List Vl}, VRL Z r σ F H fp vs fr xs → (∀ a ∈ fr', a ∉ fr) → VRL Z r' σ F' H fp vs fr xs
  | [], _, [], h, _ => h
  | _ :: _, _, _ :: _, ⟨f1, f2, e1, h1, h2, h3⟩, hd => ⟨f1, f2, e1, h1.grew g fun a ha z => hd a ha (by rw [e1]; exact List.mem_append_left _ z), VRL.grew g h2 fun a ha z => hd a ha (by rw [e1]; exact List.mem_append_right _ z), h3⟩
  | [], _, _ :: _, h, _ => h.elim
  | _ :: _, _, [], h, _ => h.elim
theorem VRL.fresh : ∀ {vs : List V} {fr : List Addr} {xs : List Vl}, VRL Z r σ F H fp vs fr xs → ∀ a ∈ fr, F a = none ∧ ¬ OwnS r fp a ∧ ∃ o, H a = some o
  | [], _, [], h => by
    have h' : _ = [] := h
    rw [h']
    exact fun a ha => nomatch ha
  | _ :: _, _, _ :: _, ⟨f1, f2, e1, h1, h2, h3⟩ => fun a ha => by
    rw [e1] at ha
    rcases List.mem_append.mp ha with ha | ha
    · exact h1.fresh a ha
    · exact VRL.fresh h2 a ha
  | [], _, _ :: _, h => h.elim
  | _ :: _, _, [], h => h.elim
def consFp (f : List Addr) (g : Nat → List Addr) : Nat → List Addr
  | 0 => f
  | k + 1 => g k
theorem OwnS.cons {x : Option (Bool × D)} {f : List Addr} {g : Nat → List Addr} {a : Addr} : OwnS (x :: r) (consFp f g) a ↔ ((∃ d, x = some (true, d)) ∧ a ∈ f) ∨ OwnS r g a := by
  constructor
  · rintro ⟨i, d, e, h⟩
    cases i with
    | zero => exact .inl ⟨⟨d, by simpa using e⟩, h⟩
    | succ i => exact .inr ⟨i, d, by simpa using e, h⟩
  · rintro (⟨⟨d, e⟩, h⟩ | ⟨i, d, e, h⟩)
    · exact ⟨0, d, by simp [e], h⟩
    · exact ⟨i + 1, d, by simpa using e, h⟩
theorem Rel.nil (e : Same F H) : Rel Z.un [] [] F H fp := ⟨.un, e, rfl, fun i d h => by simp at h, fun i d h => by simp at h, fun i j d e _ h => by simp at h⟩
theorem Rel.consFro (R : Rel Z.un r σ F H fp) {v : V} {d : D} {f : List Addr} (h : Rep Z F d v) : Rel Z.un (some (false, d) :: r) (some v :: σ) F H (consFp f fp) := by
  refine ⟨.un, R.same, by rw [List.length_cons, List.length_cons, R.len], fun i e q => ?_, fun i e q => ?_, fun i j e e' hij q1 q2 => ?_⟩
  · cases i with
    | zero =>
      simp only [List.getElem?_cons_zero, Option.some.injEq, Prod.mk.injEq, true_and] at q
      exact ⟨v, by simp, q ▸ Rep.re (ps := []) h⟩
    | succ i =>
      obtain ⟨v', h1, h2⟩ := R.fro i e (by simpa using q)
      exact ⟨v', by simpa using h1, h2⟩
  · cases i with
    | zero => simp at q
    | succ i =>
      obtain ⟨p, h1, h2⟩ := R.own i e (by simpa using q)
      exact ⟨p, by simpa using h1, h2⟩
  · cases i with
    | zero => simp at q1
    | succ i =>
      cases j with
      | zero => simp at q2
      | succ j => exact R.dis i j e e' (fun z => hij (by rw [z])) (by simpa using q1) (by simpa using q2)
theorem Rel.consOwn (R : Rel Z.un r σ F H fp) {p : Addr} {d : D} {f : List Addr} (h : OwnAt Z F H p d f) (hn : ∀ a ∈ f, F a = none ∧ ¬ OwnS r fp a) : Rel Z.un (some (true, d) :: r) (some (.ref p) :: σ) F H (consFp f fp) := by
  refine ⟨.un, R.same, by rw [List.length_cons, List.length_cons, R.len], fun i e q => ?_, fun i e q => ?_, fun i j e e' hij q1 q2 => ?_⟩
  · cases i with
    | zero => simp at q
    | succ i =>
      obtain ⟨v', h1, h2⟩ := R.fro i e (by simpa using q)
      exact ⟨v', by simpa using h1, h2⟩
  · cases i with
    | zero =>
      simp only [List.getElem?_cons_zero, Option.some.injEq, Prod.mk.injEq, true_and] at q
      subst q
      exact ⟨p, by simp, OwnAt.re (ps := []) h, fun a ha => (hn a ha).1⟩
    | succ i =>
      obtain ⟨p', h1, h2⟩ := R.own i e (by simpa using q)
      exact ⟨p', by simpa using h1, h2⟩
  · cases i with
    | zero =>
      cases j with
      | zero => exact absurd rfl hij
      | succ j => exact fun a ha z => (hn a ha).2 ⟨j, e', by simpa using q2, z⟩
    | succ i =>
      cases j with
      | zero => exact fun a ha z => (hn a z).2 ⟨i, e, by simpa using q1, ha⟩
      | succ j => exact R.dis i j e e' (fun z => hij (by rw [z])) (by simpa using q1) (by simpa using q2)
theorem Rel.consNone (R : Rel Z.un r σ F H fp) {v : Option V} {f : List Addr} : Rel Z.un (none :: r) (v :: σ) F H (consFp f fp) := by
  refine ⟨.un, R.same, by rw [List.length_cons, List.length_cons, R.len], fun i e q => ?_, fun i e q => ?_, fun i j e e' hij q1 q2 => ?_⟩
  · cases i with
    | zero => simp at q
    | succ i =>
      obtain ⟨v', h1, h2⟩ := R.fro i e (by simpa using q)
      exact ⟨v', by simpa using h1, h2⟩
  · cases i with
    | zero => simp at q
    | succ i =>
      obtain ⟨p', h1, h2⟩ := R.own i e (by simpa using q)
      exact ⟨p', by simpa using h1, h2⟩
  · cases i with
    | zero => simp at q1
    | succ i =>
      cases j with
      | zero => simp at q2
      | succ j => exact R.dis i j e e' (fun z => hij (by rw [z])) (by simpa using q1) (by simpa using q2)
/-- arguments handed over -/
structure Lent (Z : Zx) (ms : List Bool) (ds : List D) (vs : List V) (fr : List Addr) (r : Fr) (σ : L2.St) (F H : Hp) (fp : Nat → List Addr) (r' : Fr) (F' : Hp) (fpc : Nat → List Addr) : Prop where
  rel : Rel Z r' σ F' H fp
  arg : Rel Z.un (entryF ms ds) (vs.map some) F' H fpc
  grw : Grew r fp fr F r' F'
  own : ∀ a, OwnS (entryF ms ds) fpc a → (OwnS r fp a ∨ a ∈ fr) ∧ ¬ OwnS r' fp a
  len : r'.length = r.length
  dln : ds.length = vs.length
theorem Grew.trans {f1 f2 : List Addr} (a : Grew r fp f1 F r' F') (b : Grew r' fp f2 F' r2 F2) : Grew r fp (f1 ++ f2) F r2 F2 := by
  refine ⟨a.sF.trans b.sF, fun c o h1 h2 => ?_, fun c h => a.shr c (b.shr c h)⟩
  cases e : F' c with
  | some u =>
    rcases a.new c u e h2 with z | z
    · exact .inl ⟨z.1, fun q => z.2 (b.shr c q)⟩
    · exact .inr (List.mem_append_left _ z)
  | none =>
    rcases b.new c o h1 e with z | z
    · exact .inl ⟨a.shr c z.1, z.2⟩
    · exact .inr (List.mem_append_right _ z)
theorem entryF_cons (ms : List Bool) (b : Bool) (d : D) (ds : List D) : entryF (b :: ms) (d :: ds) = some (b, d) :: entryF ms ds := rfl
theorem entryF_nil (d : D) (ds : List D) : entryF [] (d :: ds) = some (false, d) :: entryF [] ds := rfl
theorem lend_fro {ms ms' : List Bool} {b : Bool} (hm : ∀ d ds, entryF ms (d :: ds) = some (false, d) :: entryF ms' ds) (ih : ∀ {r : Fr} {F : Hp} {vs : List V} {fr : List Addr} {xs : List Vl} {ds : List D} {r' : Fr}, Rel Z r σ F H fp → VRL Z r σ F H fp vs fr xs → lendL ms' xs r = some (ds, r') → ∃ F' fpc, Lent Z ms' ds vs fr r σ F H fp r' F' fpc)
    {v : V} {vs : List V} {fr : List Addr} {x : Vl} {xs : List Vl} {d : D} {ds : List D} {r1 : Fr} (R : Rel Z r σ F H fp) (h : VRL Z r σ F H fp (v :: vs) fr (x :: xs)) (t : x.take r = some (d, r1)) (l : lendL ms' xs r1 = some (ds, r')) :
    ∃ F' fpc, Lent Z ms (d :: ds) (v :: vs) fr r σ F H fp r' F' fpc := by
  obtain ⟨f1, f2, rfl, h1, h2, h3⟩ := h
  obtain ⟨F1, R1, p1, g1, l1⟩ := x.take_ok R h1 t
  obtain ⟨F2, fpc, L⟩ := ih R1 (h2.grew g1 h3) l
  refine ⟨F2, consFp [] fpc, L.rel, ?_, g1.trans L.grw, fun a ha => ?_, L.len.trans l1, by rw [List.length_cons, List.length_cons, L.dln]⟩
  · rw [hm]
    exact L.arg.consFro (p1.mono L.grw.sF)
  · rw [hm] at ha
    rcases OwnS.cons.mp ha with ⟨⟨e, z⟩, _⟩ | z
    · cases z
    · obtain ⟨q1, q2⟩ := L.own a z
      refine ⟨?_, q2⟩
      rcases q1 with q | q
      · exact .inl (g1.shr a q)
      · exact .inr (List.mem_append_right _ q)
theorem lendL_ok : ∀ (ms : List Bool) {r : Fr} {F : Hp} {vs : List V} {fr : List Addr} {xs : List Vl} {ds : List D} {r' : Fr}, Rel Z r σ F H fp → VRL Z r σ F H fp vs fr xs → lendL ms xs r = some (ds, r') →
    ∃ F' fpc, Lent Z ms ds vs fr r σ F H fp r' F' fpc := by
  intro ms
  have hnil : ∀ (ms : List Bool) {r : Fr} {F : Hp} {vs : List V} {fr : List Addr} {ds : List D} {r' : Fr}, Rel Z r σ F H fp → VRL Z r σ F H fp vs fr [] → some (([] : List D), r) = some (ds, r') → ∃ F' fpc, Lent Z ms ds vs fr r σ F H fp r' F' fpc := fun ms {r F vs fr ds r'} R h e => by
    cases e
    cases vs with
    | cons _ _ => exact h.elim
    | nil =>
      have h' : fr = [] := h
      subst h'
      refine ⟨F, fun _ => [], R, ?_, .refl, fun a ha => ?_, rfl, rfl⟩
      · cases ms with
        | nil => exact .nil R.same
        | cons b ms => exact .nil R.same
      · obtain ⟨i, d, e, _⟩ := ha
        cases ms <;> simp [entryF] at e
  induction ms with
  | nil =>
    intro r F vs fr xs
    induction xs generalizing r F vs fr with
    | nil => exact fun R h e => hnil [] R h e
    | cons x xs ih =>
      intro ds r' R h e
      cases vs with
      | nil => exact h.elim
      | cons v vs =>
        rw [lendL] at e
        split at e
        · rename_i d r1 ht
          split at e
          · rename_i ds' r2 hl
            cases e
            obtain ⟨f1, f2, rfl, h1, h2, h3⟩ := h
            obtain ⟨F1, R1, p1, g1, l1⟩ := x.take_ok R h1 ht
            obtain ⟨F2, fpc, L⟩ := ih R1 (h2.grew g1 h3) hl
            refine ⟨F2, consFp [] fpc, L.rel, L.arg.consFro (p1.mono L.grw.sF), g1.trans L.grw, fun a ha => ?_, L.len.trans l1, by rw [List.length_cons, List.length_cons, L.dln]⟩
            rcases OwnS.cons.mp ha with ⟨⟨e, z⟩, _⟩ | z
            · cases z
            · obtain ⟨q1, q2⟩ := L.own a z
              refine ⟨?_, q2⟩
              rcases q1 with q | q
              · exact .inl (g1.shr a q)
              · exact .inr (List.mem_append_right _ q)
          · cases e
        · cases e
  | cons b ms ih =>
    intro r F vs fr xs ds r' R h e
    cases xs with
    | nil =>
      have e' : some (([] : List D), r) = some (ds, r') := by
        cases b <;> exact e
      exact hnil (b :: ms) R h e'
    | cons x xs =>
      cases vs with
      | nil => exact h.elim
      | cons v vs =>
        cases b with
        | false =>
          rw [lendL] at e
          split at e
          · rename_i d r1 ht
            split at e
            · rename_i ds' r2 hl
              cases e
              exact lend_fro (b := false) (fun _ _ => rfl) (fun R h e => ih R h e) R h ht hl
            · cases e
          · cases e
        | true =>
          obtain ⟨f1, f2, rfl, h1, h2, h3⟩ := h
          unfold lendL at e
          cases x with
          | fro d => cases e
          | own d =>
            dsimp only at e
            split at e
            · rename_i ds' r2 hl
              cases e
              obtain ⟨F2, fpc, L⟩ := ih R h2 hl
              obtain ⟨p, rfl, ho, hn⟩ := h1
              have fn : ∀ a ∈ f1, F2 a = none ∧ ¬ OwnS (entryF ms ds') fpc a := fun a ha => by
                refine ⟨?_, fun z => ?_⟩
                · cases q : F2 a with
                  | none => rfl
                  | some o =>
                    rcases L.grw.new a o q (hn a ha).1 with z | z
                    · exact absurd z.1 (hn a ha).2
                    · exact absurd z (h3 a ha)
                · rcases (L.own a z).1 with q | q
                  · exact (hn a ha).2 q
                  · exact h3 a ha q
              refine ⟨F2, consFp f1 fpc, L.rel, L.arg.consOwn (ho.mono L.grw.sF fun _ _ => rfl) fn, ⟨L.grw.sF, fun a o q1 q2 => ?_, L.grw.shr⟩, fun a ha => ?_, L.len, by rw [List.length_cons, List.length_cons, L.dln]⟩
              · rcases L.grw.new a o q1 q2 with z | z
                · exact .inl z
                · exact .inr (List.mem_append_right _ z)
              · rcases OwnS.cons.mp ha with ⟨_, z⟩ | z
                · exact ⟨.inr (List.mem_append_left _ z), fun q => (hn a z).2 (L.grw.shr a q)⟩
                · obtain ⟨q1, q2⟩ := L.own a z
                  refine ⟨?_, q2⟩
                  rcases q1 with q | q
                  · exact .inl q
                  · exact .inr (List.mem_append_right _ q)
            · cases e
          | var i =>
            dsimp only at e
            split at e
            · rename_i d hi
              split at e
              · rename_i ds' r2 hl
                cases e
                obtain ⟨rfl, hv⟩ := h1
                obtain ⟨p, hp, ho, hn⟩ := R.own i d hi
                rw [hv] at hp; cases hp
                have sub : ∀ a, OwnS (r.set i none) fp a → OwnS r fp a := fun a z => OwnS.set_sub (fun _ q => by cases q) z
                have g0 : Grew r fp [] F (r.set i none) F := ⟨Same.refl F, fun a o h1 h2 => (by rw [h2] at h1; cases h1), sub⟩
                have nin : ∀ a ∈ fp i, ¬ OwnS (r.set i none) fp a := fun a ha z => by
                  obtain ⟨j, e, hj, ej, haj⟩ := OwnS.unset (fun _ q => by cases q) z
                  exact R.dis i j d e (fun q => hj q.symm) hi ej a ha haj
                have nf2 : ∀ a ∈ fp i, a ∉ f2 := fun a ha z => (VRL.fresh h2 a z).2.1 ⟨i, d, hi, ha⟩
                obtain ⟨F2, fpc, L⟩ := ih (R.drop i) (h2.grew g0 fun a z => nomatch z) hl
                have fn : ∀ a ∈ fp i, F2 a = none ∧ ¬ OwnS (entryF ms ds') fpc a := fun a ha => by
                  refine ⟨?_, fun z => ?_⟩
                  · cases q : F2 a with
                    | none => rfl
                    | some o =>
                      rcases L.grw.new a o q (hn a ha) with z | z
                      · exact absurd z.1 (nin a ha)
                      · exact absurd z (nf2 a ha)
                  · rcases (L.own a z).1 with q | q
                    · exact nin a ha q
                    · exact nf2 a ha q
                refine ⟨F2, consFp (fp i) fpc, L.rel, L.arg.consOwn (ho.mono L.grw.sF fun _ _ => rfl) fn, ⟨L.grw.sF, fun a o q1 q2 => ?_, fun a z => sub a (L.grw.shr a z)⟩, fun a ha => ?_, L.len.trans (List.length_set ..), by rw [List.length_cons, List.length_cons, L.dln]⟩
                · rcases L.grw.new a o q1 q2 with z | z
                  · exact .inl ⟨sub a z.1, z.2⟩
                  · exact .inr z
                · rcases OwnS.cons.mp ha with ⟨_, z⟩ | z
                  · exact ⟨.inl ⟨i, d, hi, z⟩, fun q => nin a z (L.grw.shr a q)⟩
                  · obtain ⟨q1, q2⟩ := L.own a z
                    refine ⟨?_, q2⟩
                    rcases q1 with q | q
                    · exact .inl (sub a q)
                    · exact .inr q
              · cases e
            · cases e
end
end VL
end
section
/-! V6: what an evaluation is worth (GdG), a def's promise (spV), what an operation may do (New, ResV, View). -/
namespace VL
open PySem PySem.Spec PyProof.Rows L2

/-- an exception: its class, its fields off its own dict -/
def ExR (Z : Zx) (c : Nat) (fs : List D) (cls : Value) (d : Option Addr) (F H : Hp) : Prop :=
  ∃ C names, Z.exc[c]? = some (C, names) ∧ cls = .ref C ∧ fs.length = names.length ∧
    ((names = [] ∧ d = none) ∨ ∃ dd vs l, d = some dd ∧ F dd = some (.xd l) ∧ (∀ (k : Nat) (f : Str) (v : V), names[k]? = some f → vs[k]? = some v → l.lookup f = some v) ∧ RepL Z F fs vs)
theorem ExR.re {Z : Zx} {ps : List (Nat × Addr)} {c : Nat} {fs : List D} {cls : Value} {d : Option Addr} {F H : Hp} (h : ExR Z c fs cls d F H) : ExR (Z.re ps) c fs cls d F H := by
  obtain ⟨C, names, h1, h2, h3, h4⟩ := h
  refine ⟨C, names, h1, h2, h3, h4.imp id ?_⟩
  rintro ⟨dd, vs, l, q1, q2, q3, q4⟩
  exact ⟨dd, vs, l, q1, q2, q3, q4.re⟩
structure Bs where
  r : Fr
  fp : Nat → List Addr
  F : Hp
  H : Hp
abbrev PrG (α β : Type) := Fr → Hp → Hp → (Nat → List Addr) → β → List Addr → α → Prop
section
variable {α α' β β' : Type} (Z : Zx) (σ : L2.St)
def GdG (P : PrG α β) (b : Bs) (W : WX) (Q : β → Hp → Prop) : Res α → Prop
  | .ok x r' => ∀ y fr F' H' fp', Ext b.r b.fp b.F b.H r' fp' F' H' → Rel Z r' σ F' H' fp' → P r' F' H' fp' y fr x → (∀ a ∈ fr, b.H a = none ∨ OwnS b.r b.fp a) → Q y H'
  | .exc c fs r' => ∀ cls d F' H' fp', Ext b.r b.fp b.F b.H r' fp' F' H' → Rel Z r' σ F' H' fp' → ExR Z c fs cls d F' H' → W cls d σ H'
  | .bad => False
variable {Z} {σ}
theorem GdG.mono {P : PrG α β} {b : Bs} {W : WX} {Q Q' : β → Hp → Prop} {m : Res α} (g : GdG Z σ P b W Q m) (h : ∀ y H, Q y H → Q' y H) : GdG Z σ P b W Q' m := by
  cases m with
  | ok x r' => exact fun y fr F' H' fp' e R p f => h _ _ (g y fr F' H' fp' e R p f)
  | exc c fs r' => exact g
  | bad => exact g
/-- the state behind an evaluation of x -/
structure Aft (P : PrG α β) (b b1 : Bs) (y : β) (H' : Hp) (x : α) (r' : Fr) (F' : Hp) (fp' : Nat → List Addr) (fr : List Addr) : Prop where
  e : Ext b.r b.fp b.F b.H r' fp' F' H'
  e1 : Ext b1.r b1.fp b1.F b1.H r' fp' F' H'
  R : Rel Z r' σ F' H' fp'
  p : P r' F' H' fp' y fr x
  f1 : ∀ a ∈ fr, b1.H a = none ∨ OwnS b1.r b1.fp a
theorem Aft.f {P : PrG α β} {b b1 : Bs} {y : β} {H' : Hp} {x : α} {r' : Fr} {F' : Hp} {fp' : Nat → List Addr} {fr : List Addr} (a : Aft (Z := Z) (σ := σ) P b b1 y H' x r' F' fp' fr) (e : Ext b.r b.fp b.F b.H b1.r b1.fp b1.F b1.H) :
    ∀ c ∈ fr, b.H c = none ∨ OwnS b.r b.fp c := fun c hc => e.back (a.f1 c hc)
theorem GdG.bnd {P : PrG α β} {P' : PrG α' β'} {b b1 : Bs} {W : WX} {Q : β' → Hp → Prop} {m : Res α} {k : α → Fr → Res α'} (g : GdG Z σ P' b W Q (m.bnd k)) (e : Ext b.r b.fp b.F b.H b1.r b1.fp b1.F b1.H) :
    GdG Z σ P b1 W (fun y H' => ∃ x r' F' fp' fr, Aft (Z := Z) (σ := σ) P b b1 y H' x r' F' fp' fr ∧ GdG Z σ P' b W Q (k x r')) m := by
  cases m with
  | ok x r' => exact fun y fr F' H' fp' e1 R p f => ⟨x, r', F', fp', fr, ⟨e.trans e1, e1, R, p, f⟩, g⟩
  | exc c fs r' => exact fun cls d F' H' fp' e1 R x => g cls d F' H' fp' (e.trans e1) R x
  | bad => exact g
theorem GdG.orBad {P : PrG α β} {b : Bs} {W : WX} {Q : β → Hp → Prop} {γ : Type} {o : Option γ} {k : γ → Res α} (g : GdG Z σ P b W Q (orBad o k)) : ∃ x, o = some x ∧ GdG Z σ P b W Q (k x) := by
  cases o with
  | none => exact g.elim
  | some x => exact ⟨x, rfl, g⟩
end
section
variable {α β : Type} {Z : Zx} {σ : L2.St}
theorem GdG.shift {P : PrG α β} {b b1 : Bs} {W : WX} {Q : β → Hp → Prop} {m : Res α} (g : GdG Z σ P b W Q m) (e : Ext b.r b.fp b.F b.H b1.r b1.fp b1.F b1.H) : GdG Z σ P b1 W Q m := by
  cases m with
  | ok y r' => exact fun v fr F' H' fp' e1 R' p f => g v fr F' H' fp' (e.trans e1) R' p fun c hc => e.back (f c hc)
  | exc c fs r' => exact fun cl d F' H' fp' e1 R' x => g cl d F' H' fp' (e.trans e1) R' x
  | bad => exact g
end
abbrev PVl (Z : Zx) (σ : L2.St) : PrG Vl V := fun r F H fp v fr x => VR Z r σ F H fp v fr x
abbrev PVls (Z : Zx) (σ : L2.St) : PrG (List Vl) (List V) := fun r F H fp vs fr xs => VRL Z r σ F H fp vs fr xs
/-- the reading of an expression -/
def tV (Z : Zx) (W : WX) (m : Fr → Res Vl) : TE := fun σ H Q => ∃ r F fp, Rel Z r σ F H fp ∧ GdG Z σ (PVl Z σ) ⟨r, fp, F, H⟩ W Q (m r)
def tVA (Z : Zx) (W : WX) (m : Fr → Res (List Vl)) : TA := fun σ H Q => ∃ r F fp, Rel Z r σ F H fp ∧ GdG Z σ (PVls Z σ) ⟨r, fp, F, H⟩ W Q (m r)
theorem _root_.L2.PE.cons {X : Cx} {e : Expr} {t t' : TE} (h : PE X e t) (c : ∀ σ H Q, t' σ H Q → t σ H Q) : PE X e t' := ⟨fun pins s σ H Q I q => h.run pins s σ H Q I (c σ H Q q)⟩
theorem _root_.L2.PA.cons {X : Cx} {e : List Expr} {t t' : TA} (h : PA X e t) (c : ∀ σ H Q, t' σ H Q → t σ H Q) : PA X e t' := ⟨fun pos pins s σ H Q I q => h.run pos pins s σ H Q I (c σ H Q q)⟩
theorem _root_.L2.PT.cons {X : Cx} {e : Expr} {t t' : TT} (h : PT X e t) (c : ∀ σ H Q, t' σ H Q → t σ H Q) : PT X e t' := ⟨fun pins s σ H Q I q => h.run pins s σ H Q I (c σ H Q q)⟩
theorem _root_.L2.PS.cons {X : Cx} {e : Stmt} {t t' : TS} (h : PS X e t) (c : ∀ D σ H, t' D σ H → t D σ H) : PS X e t' := ⟨fun pins s σ H D I q => h.run pins s σ H D I (c D σ H q)⟩
theorem _root_.L2.PSs.cons {X : Cx} {e : List Stmt} {t t' : TS} (h : PSs X e t) (c : ∀ D σ H, t' D σ H → t D σ H) : PSs X e t' := ⟨fun pins s σ H D I q => h.run pins s σ H D I (c D σ H q)⟩

section
variable {Z : Zx} {r r' r2 : Fr} {σ : L2.St} {F F' F2 H H' H2 : Hp} {fp fp' fp2 : Nat → List Addr} {W : WX}
/-- the next operand -/
theorem step {P' : PrG α' β'} {b : Bs} {Q : β' → Hp → Prop} {m : Fr → Res Vl} {k : Vl → Fr → Res α'} (R : Rel Z r σ F H fp) (e : Ext b.r b.fp b.F b.H r fp F H) (g : GdG Z σ P' b W Q ((m r).bnd k)) :
    tV Z W m σ H (fun y H' => ∃ x r' F' fp' fr, Aft (Z := Z) (σ := σ) (PVl Z σ) b ⟨r, fp, F, H⟩ y H' x r' F' fp' fr ∧ GdG Z σ P' b W Q (k x r')) := ⟨r, F, fp, R, g.bnd (b1 := ⟨r, fp, F, H⟩) e⟩
theorem stepA {P' : PrG α' β'} {b : Bs} {Q : β' → Hp → Prop} {m : Fr → Res (List Vl)} {k : List Vl → Fr → Res α'} (R : Rel Z r σ F H fp) (e : Ext b.r b.fp b.F b.H r fp F H) (g : GdG Z σ P' b W Q ((m r).bnd k)) :
    tVA Z W m σ H (fun y H' => ∃ x r' F' fp' fr, Aft (Z := Z) (σ := σ) (PVls Z σ) b ⟨r, fp, F, H⟩ y H' x r' F' fp' fr ∧ GdG Z σ P' b W Q (k x r')) := ⟨r, F, fp, R, g.bnd (b1 := ⟨r, fp, F, H⟩) e⟩

/-! ### operations: only new things are laid -/
structure New (F H F' H' : Hp) : Prop where
  sH : Same H H'
  sF : Same F F'
  sub : Same F' H'
  new : ∀ a o, F' a = some o → F a = none → H a = none
theorem New.refl (e : Same F H) : New F H F H := ⟨Same.refl H, Same.refl F, e, fun a o h1 h2 => by rw [h2] at h1; cases h1⟩
theorem New.trans (a : New F H F' H') (b : New F' H' F2 H2) : New F H F2 H2 := ⟨a.sH.trans b.sH, a.sF.trans b.sF, b.sub, fun c o h1 h2 => by
  cases q : F' c with
  | some u => exact a.new c u q h2
  | none =>
    have z := b.new c o h1 q
    cases w : H c with
    | none => rfl
    | some u => rw [a.sH c u w] at z; cases z⟩
theorem New.ext (n : New F H F' H') : Ext r fp F H r fp F' H' := ⟨n.sF, fun a o h1 h2 => .inl (n.new a o h1 h2), fun a o h _ => n.sH a o h, fun a h => .inr h⟩
theorem New.rel (n : New F H F' H') (R : Rel Z r σ F H fp) : Rel Z r σ F' H' fp := by
  refine ⟨R.pin, n.sub, R.len, fun i d h => ?_, fun i d h => ?_, R.dis⟩
  · obtain ⟨v, h1, h2⟩ := R.fro i d h
    exact ⟨v, h1, h2.mono n.sF⟩
  · obtain ⟨p, h1, h2, h3⟩ := R.own i d h
    have hs := h2.some.2
    refine ⟨p, h1, h2.mono n.sF fun a ha => ?_, fun a ha => ?_⟩
    · obtain ⟨o, eo⟩ := hs a ha
      rw [eo]
      exact n.sH a o eo
    · cases q : F' a with
      | none => rfl
      | some o =>
        obtain ⟨u, eu⟩ := hs a ha
        have z := n.new a o q (h3 a ha)
        rw [eu] at z; cases z
/-- a result of an operation: Q holds of every value and heap that it may have -/
def ResV (Z : Zx) (F H : Hp) (Q : VK) : Vl → Prop
  | .fro d => ∀ v F' H', New F H F' H' → Rep Z F' d v → Q v H'
  | .own d => ∀ p fr F' H', New F H F' H' → OwnAt Z F' H' p d fr → (∀ a ∈ fr, F' a = none ∧ H a = none) → Q (.ref p) H'
  | .var _ => False
theorem OwnS.some (R : Rel Z r σ F H fp) {a : Addr} (h : OwnS r fp a) : ∃ o, H a = some o := by
  obtain ⟨i, d, e, ha⟩ := h
  obtain ⟨p, _, h2, _⟩ := R.own i d e
  exact h2.some.2 a ha
/-- the end of an operation -/
theorem ResV.of {b : Bs} {Q : VK} {res : Vl} (R : Rel Z r σ F H fp) (e : Ext b.r b.fp b.F b.H r fp F H) (hv : ∀ i, res ≠ .var i) (g : GdG Z σ (PVl Z σ) b W Q (.ok res r)) : ResV Z F H Q res := by
  cases res with
  | fro d => exact fun v F' H' n h => g v [] F' H' fp (e.trans n.ext) (n.rel R) ⟨rfl, h⟩ fun a z => nomatch z
  | own d =>
    intro p fr F' H' n h hn
    refine g _ fr F' H' fp (e.trans n.ext) (n.rel R) ⟨p, rfl, h, fun a ha => ⟨(hn a ha).1, fun z => ?_⟩⟩ fun a ha => e.back (.inl (hn a ha).2)
    obtain ⟨o, eo⟩ := OwnS.some R z
    have := (hn a ha).2
    rw [eo] at this; cases this
  | var i => exact absurd rfl (hv i)
theorem ResV.now {Q : VK} {d : D} {v : V} (h : ResV Z F H Q (.fro d)) (e : Same F H) (hr : Rep Z F d v) : Q v H := h v F H (.refl e) hr
/-- a new tuple, a new list -/
theorem New.tup {p : Addr} {o : HO} (e : Same F H) (hp : H p = none) : New F H (upd F p o) (upd H p o) := by
  have hf : F p = none := e.free hp
  refine ⟨fun a u h => ?_, fun a u h => ?_, fun a u h => ?_, fun a u h1 h2 => ?_⟩
  · rw [upd_ne (ne_of_none h hp)]; exact h
  · rw [upd_ne (ne_of_none h hf)]; exact h
  · by_cases ha : a = p
    · subst ha; rw [upd_same] at h ⊢; exact h
    · rw [upd_ne ha] at h ⊢; exact e a u h
  · by_cases ha : a = p
    · subst ha; exact hp
    · rw [upd_ne ha, h2] at h1; cases h1
theorem New.lst {p : Addr} {o : HO} (e : Same F H) (hp : H p = none) : New F H F (upd H p o) := by
  have hf : F p = none := e.free hp
  refine ⟨fun a u h => ?_, Same.refl F, fun a u h => ?_, fun a u h1 h2 => by rw [h2] at h1; cases h1⟩
  · rw [upd_ne (ne_of_none h hp)]; exact h
  · rw [upd_ne (ne_of_none h hf)]; exact e a u h
theorem ResV.tup {Q : VK} {ds : List D} {xs : List V} (h : ResV Z F H Q (.fro (.tup ds))) (e : Same F H) (hr : RepL Z F ds xs) : ∀ (p : Addr) (o : Obj), H p = none → o.dict = none → Q (.ref p) (upd H p (.frz o (.tup xs))) := fun p o hp hd => by
  have n := New.tup (o := .frz o (.tup xs)) e hp
  exact h _ _ _ n (.tup (.of upd_same hd) (hr.mono n.sF))
theorem ResV.lst {Q : VK} {ds : List D} {xs : List V} {p : Addr} (h : ResV Z F H Q (.own (.lst ds))) (e : Same F H) (hp : H p = none) (hz : xs.length ≤ sizeLine) (hr : RepL Z F ds xs) : Q (.ref p) (upd H p (.lst xs)) := by
  have n := New.lst (o := .lst xs) e hp
  exact h p [p] _ _ n ⟨rfl, xs, upd_same, hz, hr⟩ fun a ha => by
    rw [List.mem_singleton.mp ha]
    exact ⟨e.free hp, hp⟩
/-- what a value is, now: its own object in H, its parts in F -/
def View (Z : Zx) (F H : Hp) (v : V) : D → Prop
  | .lst ds => ∃ a xs, v = .ref a ∧ H a = some (.lst xs) ∧ RepL Z F ds xs
  | .tup ds => Rep Z F (.tup ds) v
  | .dct kvs => ∃ d o es ep, v = .ref d ∧ DcO H d o es ep ∧ RepE Z F kvs es.toList ∧ (kvs.map fun p => keyOk p.1).Nodup ∧ kvs.length ≤ sizeLine
  | .obj c ds => ∃ a dx vs, v = .ref a ∧ ObjAt Z H a dx c vs ∧ RepL Z F ds vs
  | .rng _ _ _ _ => ∃ a, v = .ref a
  | .exn c ds => Rep Z F (.exn c ds) v
  | .non => v = .non
  | .bl b => v = .bl b
  | .int i => v = .int i
  | .str s => v = .str s
theorem Rep.view {d : D} {v : V} (h : Rep Z F d v) (e : Same F H) : View Z F H v d := by
  cases h with
  | non => rfl
  | bl b => rfl
  | int i => rfl
  | str s => rfl
  | tup h r => exact .tup h r
  | lst h r => exact ⟨_, _, rfl, e _ _ h, r⟩
  | dct h r n z => exact ⟨_, _, _, _, rfl, ⟨e _ _ h.at_, h.ex, h.dat, h.sys⟩, r, n, z⟩
  | obj h r => exact ⟨_, _, _, rfl, h.same e, r⟩
  | exn h r => exact .exn h r
theorem OwnAt.view {p : Addr} {d : D} {f : List Addr} (h : OwnAt Z F H p d f) : View Z F H (.ref p) d := by
  cases d with
  | lst ds =>
    obtain ⟨rfl, xs, h1, hz, h2⟩ := h
    exact ⟨p, xs, rfl, h1, h2⟩
  | dct kvs =>
    obtain ⟨rfl, o, es, ep, h1, h2, h3, h4⟩ := h
    exact ⟨p, o, es, ep, rfl, h1, h2, h3, h4⟩
  | obj c ds =>
    obtain ⟨dx, vs, rfl, ho, h1, h2⟩ := h
    exact ⟨p, dx, vs, rfl, h1, h2⟩
  | rng gp st cells ix => exact ⟨p, rfl⟩
  | _ => exact h.elim
theorem slot_view (R : Rel Z r σ F H fp) {i : Nat} {d : D} {v : V} (g : slotD r i = some d) (hv : σ[i]? = some (some v)) : View Z F H v d := by
  unfold slotD at g
  split at g
  · rename_i b d' e
    cases g
    cases b with
    | false =>
      obtain ⟨v', e1, e2⟩ := R.fro i d e
      rw [hv] at e1; cases e1
      exact e2.view R.same
    | true =>
      obtain ⟨p, e1, e2, _⟩ := R.own i d e
      rw [hv] at e1; cases e1
      exact e2.view
  · cases g
theorem VR.view (R : Rel Z r σ F H fp) {v : V} {fr : List Addr} {x : Vl} (h : VR Z r σ F H fp v fr x) {d : D} (g : x.get r = some d) : View Z F H v d := by
  cases x with
  | fro e =>
    cases g
    exact h.2.view R.same
  | own e =>
    cases g
    obtain ⟨p, rfl, ho, _⟩ := h
    exact ho.view
  | var i => exact slot_view R g h.2
theorem View.rep {d : D} {v : V} (h : View Z F H v d) (e : Same F H) (hf : freezable d = true) : Rep Z H d v := by
  cases d with
  | non => cases h; exact .non
  | bl b => cases h; exact .bl b
  | int i => cases h; exact .int i
  | str s => cases h; exact .str s
  | lst ds => obtain ⟨a, xs, rfl, h1, h2⟩ := h; exact .lst h1 (h2.mono e)
  | tup ds => exact Rep.mono e h
  | dct kvs => obtain ⟨d, o, es, ep, rfl, h1, h2, h3, h4⟩ := h; exact .dct h1 (h2.mono e) h3 h4
  | obj c ds => obtain ⟨a, dx, vs, rfl, h1, h2⟩ := h; exact .obj h1 (h2.mono e)
  | rng _ _ _ _ => cases hf
  | exn c ds => exact Rep.mono e h
theorem View.tupN {ds : List D} {v : V} (h : View Z F H v (.tup ds)) (e : Same F H) : ∃ a xs, v = .ref a ∧ SqN Z.K H a xs ∧ RepL Z F ds xs := by
  have h' : Rep Z F (.tup ds) v := h
  cases h' with
  | tup hq r => exact ⟨_, _, rfl, Same.tup e hq, r⟩
theorem View.tupE {ds : List D} {v : V} (h : View Z F H v (.tup ds)) (e : Same F H) : ∃ a xs, v = .ref a ∧ SqT Z.K H a xs ∧ RepL Z F ds xs := by
  obtain ⟨a, xs, h1, h2, h3⟩ := h.tupN e
  exact ⟨a, xs, h1, h2.sqT, h3⟩
theorem VR.of_ext {v : V} {fr : List Addr} {x : Vl} (h : VR Z r σ F H fp v fr x) (e : Ext r fp F H r' fp' F' H') : VR Z r' σ F' H' fp' v fr x := h.ext e
end
end VL
end
section
/-! V7: the operations on data, by the layer's rules. -/
namespace VL
open PySem PySem.Spec PyProof.Rows L2

abbrev zx (X : Cx) (cls : Clz) (exc : List (Addr × List Str)) : Zx := ⟨X.prog, X.w, X.K, cls, exc⟩
def bopOf : Bop → Operator
  | .add => .Add
  | .sub => .Sub
  | .mul => .Mult
  | .fdiv => .FloorDiv
  | .mod => .Mod
  | .pow => .Pow
def rBin (Z : Zx) (op : Bop) : R2 := fun x y H Q => ∃ F dx dy res, Same F H ∧ View Z F H x dx ∧ View Z F H y dy ∧ binD op dx dy = some res ∧ ResV Z F H Q res
section
variable {X : Cx} {cls : Clz} {exc : List (Addr × List Str)} {Z : Zx} {F H : Hp}
theorem lim_line : LIM = sizeLine := by rw [sizeLine_eq]
theorem RepL.rep {ds : List D} {vs : List V} (h : RepL Z F ds vs) : ∀ n : Nat, RepL Z F (repL n ds) (List.replicate n vs).flatten
  | 0 => .nil
  | n + 1 => by
    unfold repL
    rw [List.replicate_succ, List.replicate_succ, List.flatten_cons, List.flatten_cons]
    exact h.append (h.rep n)
theorem len_rep {α : Type} (vs : List α) : ∀ n : Nat, (List.replicate n vs).flatten.length = n * vs.length
  | 0 => by simp
  | n + 1 => by rw [List.replicate_succ, List.flatten_cons, List.length_append, len_rep vs n, Nat.succ_mul, Nat.add_comm]
theorem small_cmul {i j : Int} (h : (isSmall i || isSmall j) = true) : CMul i j := by
  rcases Bool.or_eq_true_iff.mp h with h | h
  · unfold isSmall at h
    simp only [Bool.and_eq_true, decide_eq_true_eq] at h
    exact .inl h
  · unfold isSmall at h
    simp only [Bool.and_eq_true, decide_eq_true_eq] at h
    exact .inr h
theorem ResV.int {Q : VK} {i : Int} (h : ResV Z F H Q (.fro (.int i))) (e : Same F H) : Q (.int i) H := h.now e (.int i)
theorem ResV.bl {Q : VK} {i : Bool} (h : ResV Z F H Q (.fro (.bl i))) (e : Same F H) : Q (.bl i) H := h.now e (.bl i)
theorem ResV.str {Q : VK} {i : Str} (h : ResV Z F H Q (.fro (.str i))) (e : Same F H) : Q (.str i) H := h.now e (.str i)
theorem rep_cps (x : Array Nat) : ∀ (k : Nat) (acc : Array Nat), (List.replicate k x).foldl (· ++ ·) acc = acc ++ (repL k x.toList).toArray
  | 0, acc => by simp [repL]
  | k + 1, acc => by
    rw [List.replicate_succ, List.foldl_cons, rep_cps x k]
    apply Array.toList_inj.mp
    simp [repL, List.replicate_succ]
theorem rep_strE (x : Str) (k : Nat) : (⟨(List.replicate k x.cps).foldl (· ++ ·) #[]⟩ : Str) = repS k x := by
  rw [rep_cps]
  show Str.mk (#[] ++ _) = _
  rw [Array.empty_append]
  rfl
theorem mul_strV {prog : Program} {w : World} {A : Around} {E : Value → Shared → Prop} {s : Shared} {x : Str} {n : Int} {t u : Tok} {Q : Value → Shared → Prop} (hl : 0 ≤ n ∧ n ≤ 100 ∧ x.length ≤ 1000) (h : ∀ t' tk, Q (.str (repS n.toNat x) t') { s with toks := tk }) :
    wpAny (model prog w) A (binaryOp .Mult (.str x t) (.int n u)) Q E s := by
  obtain ⟨h0, h1, h2⟩ := hl
  have hm : x.length * n.toNat ≤ 1000 * 100 := Nat.mul_le_mul h2 (by omega)
  refine P.mul_str (by
    have h3 : ¬ n < -(2 ^ 63 : Int) := by omega
    have h4 : ¬ n ≥ 2 ^ 63 := by omega
    rw [decide_eq_false h3, decide_eq_false h4]; rfl) (fun g1 _ g3 => ?_) (fun _ _ => ?_) ?_
  · have h5 : (2 ^ 63 - 1 : Int) / n ≥ 1000 := by
      apply Int.le_ediv_of_mul_le (by omega)
      have : 1000 * n ≤ 1000 * 100 := by omega
      omega
    omega
  · unfold PySem.Builtin.Str.tooLong
    rw [decide_eq_false_iff_not, sizeLine_eq]
    omega
  · by_cases g1 : n < 1
    · rw [if_pos g1]
      have : n.toNat = 0 := by omega
      refine ⟨by decide, ?_⟩
      have e : repS n.toNat x = Str.empty := by rw [this]; rfl
      rw [← e]
      exact h _ _
    · rw [if_neg g1]
      split
      · rename_i g2
        have e : repS n.toNat x = x := by
          rcases Bool.or_eq_true_iff.mp g2 with g2 | g2
          · have : n = 1 := by simpa using g2
            subst this
            show Str.mk (repL 1 x.cps.toList).toArray = x
            simp [repL]
          · have : x.cps.size = 0 := beq_iff_eq.mp g2
            have e2 : x.cps.toList = [] := by
              apply List.eq_nil_of_length_eq_zero
              simpa using this
            show Str.mk (repL n.toNat x.cps.toList).toArray = x
            rw [e2]
            have : (repL n.toNat ([] : List Nat)) = [] := by unfold repL; simp
            rw [this]
            cases x with
            | mk c => congr 1; apply Array.toList_inj.mp; rw [e2]
        rw [e] at h
        exact h t s.toks
      · rw [rep_strE]
        refine ⟨?_, h _ _⟩
        show (repL n.toNat x.cps.toList).toArray.size ≤ sizeLine
        rw [List.size_toArray]
        unfold repL
        rw [len_rep, sizeLine_eq, Array.length_toList]
        have : n.toNat * x.cps.size = x.length * n.toNat := Nat.mul_comm _ _
        omega
theorem op_bin (op : Bop) : OpR X (binaryOp (bopOf op)) (rBin (zx X cls exc) op) := by
  intro pins s σ H x y v u Q I rx ry ⟨F, dx, dy, res, e, vx, vy, hb, q⟩
  unfold binD at hb
  split at hb
  · cases vx; cases vy; cases hb
    exact op_add pins s σ H _ _ v u Q I rx ry ⟨_, _, rfl, rfl, q.int e⟩
  · split at hb
    · rename_i hl
      cases vx; cases vy; cases hb
      exact op_add_str pins s σ H _ _ v u Q I rx ry ⟨_, _, rfl, rfl, by rw [← lim_line]; exact hl, q.str e⟩
    · cases hb
  · split at hb
    · rename_i xs ys hl
      cases hb
      obtain ⟨a, vs, rfl, ha, ra⟩ := View.tupE vx e
      obtain ⟨b, ws, rfl, hb, rb⟩ := View.tupE vy e
      refine op_catN pins s σ H _ _ v u Q I rx ry ⟨a, b, vs, ws, rfl, rfl, ha, hb, by rw [← ra.length, ← rb.length, ← lim_line]; exact hl, fun h1 => ?_, fun h1 h2 => ?_, fun h1 h2 => ?_⟩
      · subst h1
        cases ra
        exact q.now e vy
      · subst h2
        cases rb
        rw [List.append_nil] at q
        exact q.now e vx
      · exact q.tup e (ra.append rb)
    · cases hb
  · split at hb
    · rename_i xs ys hl
      cases hb
      obtain ⟨a, vs, rfl, ha, ra⟩ := vx
      obtain ⟨b, ws, rfl, hb, rb⟩ := vy
      exact op_cat pins s σ H _ _ v u Q I rx ry ⟨a, b, vs, ws, rfl, rfl, ha, hb, by rw [← ra.length, ← rb.length, ← lim_line]; exact hl, fun p hp => q.lst e hp (by rw [List.length_append, ← ra.length, ← rb.length, ← lim_line]; exact hl) (ra.append rb)⟩
    · cases hb
  · cases vx; cases vy; cases hb
    exact op_sub pins s σ H _ _ v u Q I rx ry ⟨_, _, rfl, rfl, q.int e⟩
  · split at hb
    · rename_i hl
      cases vx; cases vy; cases hb
      exact op_mul pins s σ H _ _ v u Q I rx ry ⟨_, _, rfl, rfl, small_cmul hl, q.int e⟩
    · cases hb
  · split at hb
    · rename_i z j hl
      cases vx; cases vy; cases hb
      obtain ⟨t, rfl⟩ := rx
      obtain ⟨t', rfl⟩ := ry
      exact mul_strV hl (fun t' tk => ⟨.str (repS j.toNat z), H, I.tok _, ⟨_, rfl⟩, q.str e⟩)
    · cases hb
  · split at hb
    · rename_i xs j hl
      cases hb
      obtain ⟨a, vs, rfl, ha, ra⟩ := View.tupE vx e
      cases vy
      refine op_repN pins s σ H _ _ v u Q I rx ry ⟨a, j, vs, rfl, rfl, ha, fun z => ?_, hl.2.1, by omega, by rw [← ra.length]; omega, fun z => ?_, fun _ => q.tup e (ra.rep _)⟩
      · subst z
        cases ra
        exact absurd hl.1 (by decide)
      · subst z
        have e1 : repL (Int.toNat 1) xs = xs := by simp [repL]
        rw [e1] at q
        exact q.now e vx
    · cases hb
  · split at hb
    · rename_i xs j hl
      cases hb
      obtain ⟨a, vs, rfl, ha, ra⟩ := vx
      cases vy
      have hsz : vs.length * j.toNat ≤ sizeLine := by
        rw [← ra.length, ← lim_line]
        have h1 : xs.length ≤ 10000 := hl.2.2
        have h2 : j.toNat ≤ 100 := by omega
        have := Nat.mul_le_mul h1 h2
        show xs.length * j.toNat ≤ 16777216
        omega
      refine op_rep pins s σ H _ _ v u Q I rx ry ⟨a, j, vs, rfl, rfl, ha, by omega, by omega, hsz, fun p hp => q.lst e hp ?_ (ra.rep _)⟩
      rw [len_rep, Nat.mul_comm]
      exact hsz
    · cases hb
  · split at hb
    · rename_i hl
      cases vx; cases vy; cases hb
      exact op_fdivN pins s σ H _ _ v u Q I rx ry ⟨_, _, rfl, rfl, hl, q.int e⟩
    · cases hb
  · split at hb
    · rename_i hl
      cases vx; cases vy; cases hb
      exact op_modN pins s σ H _ _ v u Q I rx ry ⟨_, _, rfl, rfl, hl, q.int e⟩
    · cases hb
  · split at hb
    · rename_i hl
      cases vx; cases vy; cases hb
      exact op_pow pins s σ H _ _ v u Q I rx ry ⟨_, _, rfl, rfl, hl, q.int e⟩
    · cases hb
  · cases hb
end
end VL
end
section
/-! V8: dicts of data: what a look-up gives, a store. -/
namespace VL
open PySem PySem.Spec PyProof.Rows L2

section
variable {X : Cx} {cls : Clz} {exc : List (Addr × List Str)} {pins : List (Addr × Obj)} {σ : L2.St} {F H : Hp} {s : Shared}
mutual
theorem Rep.nested (I : Inv X pins σ H s) : ∀ {d : D} {v : V} {u : Value} {n : NestedKey}, Rep (zx X cls exc) H d v → RelV v u → keyD d = some n → NestedIs s.heap n u
  | .non, _, _, _, .non, r, e => by cases r; cases e; exact .none
  | .bl b, _, _, _, .bl _, r, e => by
    cases r
    have e' : some (NestedKey.num (b2i b)) = some _ := e
    cases e'
    exact .bool (by unfold b2i; cases b <;> rfl)
  | .int i, _, _, _, .int _, r, e => by obtain ⟨t, rfl⟩ := r; cases e; exact .int i t
  | .str x, _, _, _, .str _, r, e => by obtain ⟨t, rfl⟩ := r; cases e; exact .text x t
  | .tup ds, _, _, n, .tup h hr, r, e => by
    cases r
    have e' : (keyL ds).map NestedKey.tup = some n := e
    obtain ⟨ks, h1, h2⟩ := Option.map_eq_some_iff.mp e'
    subst h2
    obtain ⟨its, rv, ht, hz⟩ := I.tuple h.sqT
    obtain ⟨o, ho, hc, m, hd⟩ := ht
    exact .tup ho hc hd (by simpa using RepL.nested I hr rv h1)
  | .lst _, _, _, _, _, _, e => by cases e
  | .dct _, _, _, _, _, _, e => by cases e
  | .obj _ _, _, _, _, _, _, e => by cases e
  | .rng _ _ _ _, _, _, _, h, _, _ => by cases h
theorem RepL.nested (I : Inv X pins σ H s) : ∀ {ds : List D} {vs : List V} {us : List Value} {ns : List NestedKey}, RepL (zx X cls exc) H ds vs → Vals vs us → keyL ds = some ns → NestedAll s.heap ns us
  | [], _, _, _, .nil, .nil, e => by cases e; exact .nil
  | d :: ds, _, _, ns, .cons h hr, .cons r rr, e => by
    unfold keyL at e
    split at e
    · rename_i k ks h1 h2
      cases e
      exact .cons (Rep.nested I h r h1) (RepL.nested I hr rr h2)
    · cases e
end
theorem keyOk_tup {ds : List D} {n : NestedKey} (h : keyOk (.tup ds) = some n) : keyD (.tup ds) = some n ∧ n.depth ≤ 8 := by
  unfold keyOk at h
  dsimp only at h
  split at h
  · rename_i ks e
    split at h
    · rename_i hd
      cases h
      exact ⟨by unfold keyD; rw [e]; rfl, hd⟩
    · cases h
  · cases h
/-- a leaf key -/
def kn : Key → NestedKey
  | .inl i => .num i
  | .inr x => .text x
def kd : Key → D
  | .inl i => .int i
  | .inr x => .str x
theorem kn_inj {a b : Key} (h : kn a = kn b) : a = b := by
  cases a <;> cases b <;> cases h <;> rfl
theorem keyOk_leaf {k : D} {n : NestedKey} (h : keyOk k = some n) (ht : isTup k = false) : ∃ q, k = kd q ∧ n = kn q := by
  cases k with
  | int i => cases h; exact ⟨.inl i, rfl, rfl⟩
  | str x => cases h; exact ⟨.inr x, rfl, rfl⟩
  | tup ds => cases ht
  | _ => cases h
theorem kn_hash (w : World) (q : Key) : (kn q).hash w = keyH w q := by
  cases q <;> rfl
/-- entries with tuple keys -/
inductive PX (Z : Zx) (F : Hp) : List (D × D) → List (NestedKey × Addr × Value) → Prop
  | nil : PX Z F [] []
  | cons {k v : D} {n : NestedKey} {a : Addr} {vv : V} {u : Value} {r : List (D × D)} {xs : List (NestedKey × Addr × Value)} : keyOk k = some n → isTup k = true → Rep Z F k (.ref a) → RelV vv u → Rep Z F v vv → PX Z F r xs → PX Z F ((k, v) :: r) ((n, a, u) :: xs)
/-- entries with leaf keys -/
inductive PY (Z : Zx) (F : Hp) : List (D × D) → List (Key × Value) → Prop
  | nil : PY Z F [] []
  | cons {v : D} {q : Key} {vv : V} {u : Value} {r : List (D × D)} {xs : List (Key × Value)} : RelV vv u → Rep Z F v vv → PY Z F r xs → PY Z F ((kd q, v) :: r) ((q, u) :: xs)
variable {Z : Zx}
theorem PX.length : ∀ {kvs : List (D × D)} {xs : List (NestedKey × Addr × Value)}, PX Z F kvs xs → kvs.length = xs.length
  | _, _, .nil => rfl
  | _, _, .cons _ _ _ _ _ r => by rw [List.length_cons, List.length_cons, r.length]
theorem PY.length : ∀ {kvs : List (D × D)} {xs : List (Key × Value)}, PY Z F kvs xs → kvs.length = xs.length
  | _, _, .nil => rfl
  | _, _, .cons _ _ r => by rw [List.length_cons, List.length_cons, r.length]
theorem isTup_ref {k : D} {v : V} (h : Rep Z F k v) (ht : isTup k = true) : ∃ a, v = .ref a := by
  cases h with
  | tup _ _ => exact ⟨_, rfl⟩
  | _ => cases ht
theorem RepE.px : ∀ {kvs : List (D × D)} {es : List DictEntry}, RepE Z F kvs es → (kvs.all fun p => isTup p.1) = true → ∃ xs, PX Z F kvs xs ∧ es = xs.map fun x => (⟨x.1.hash Z.w, .ref x.2.1, x.2.2⟩ : DictEntry)
  | _, _, .nil, _ => ⟨[], .nil, rfl⟩
  | (k, v) :: r, ⟨eh, ek, ev⟩ :: es, .cons h1 h3 h4 h5 h6 h7 hr, ht => by
    rw [List.all_cons, Bool.and_eq_true] at ht
    obtain ⟨xs, px, e⟩ := RepE.px hr ht.2
    obtain ⟨a, rfl⟩ := isTup_ref h5 ht.1
    obtain rfl : ek = Value.ref a := h4
    exact ⟨_, .cons h1 ht.1 h5 h6 h7 px, by rw [e, List.map_cons]; congr 1; exact congrArg (fun z => DictEntry.mk z _ _) h3⟩
theorem RepE.py : ∀ {kvs : List (D × D)} {es : List DictEntry}, RepE Z F kvs es → (kvs.all fun p => !isTup p.1) = true → ∃ xs, PY Z F kvs xs ∧ Pairs (mixKind Z.P Z.w) es xs ∧ ∀ e ∈ es, ∃ k, (mixKind Z.P Z.w).is k e.key = true ∧ e.hash = (mixKind Z.P Z.w).hash k
  | _, _, .nil, _ => ⟨[], .nil, .nil, fun e h => nomatch h⟩
  | (k, v) :: r, e :: es, .cons h1 h3 h4 h5 h6 h7 hr, ht => by
    rw [List.all_cons, Bool.and_eq_true] at ht
    obtain ⟨xs, px, pp, pk⟩ := RepE.py hr ht.2
    obtain ⟨q, rfl, rfl⟩ := keyOk_leaf h1 (by simpa using ht.1)
    have hk : keyIs q e.key = true := by
      cases q with
      | inl i =>
        cases h5
        obtain ⟨t, e'⟩ := h4
        rw [e']
        exact keyIs_int i t
      | inr x =>
        cases h5
        obtain ⟨t, e'⟩ := h4
        rw [e']
        exact keyIs_str x t
    refine ⟨_, .cons h6 h7 px, .cons hk rfl pp, fun e' he => ?_⟩
    rcases List.mem_cons.mp he with z | z
    · subst z
      exact ⟨q, hk, by rw [h3, kn_hash]; rfl⟩
    · exact pk e' z
theorem PX.repE : ∀ {kvs : List (D × D)} {xs : List (NestedKey × Addr × Value)}, PX Z F kvs xs → RepE Z F kvs (xs.map fun x => (⟨x.1.hash Z.w, .ref x.2.1, x.2.2⟩ : DictEntry))
  | _, _, .nil => .nil
  | _, _, .cons (a := a) h1 h2 h3 h4 h5 r => .cons (kv := .ref a) h1 rfl rfl h3 h4 h5 r.repE
theorem PY.repE : ∀ {kvs : List (D × D)} {xs : List (Key × Value)} {es : List DictEntry}, PY Z F kvs xs → Pairs (mixKind Z.P Z.w) es xs → (∀ e ∈ es, ∃ k, (mixKind Z.P Z.w).is k e.key = true ∧ e.hash = (mixKind Z.P Z.w).hash k) → RepE Z F kvs es
  | _, _, _, .nil, .nil, _ => .nil
  | _, _, _, .cons (q := q) h4 h5 r, .cons (e := e) hk hv pp, hh => by
    have hk' : keyIs q e.key = true := hk
    obtain ⟨k', h1, h2⟩ := hh e List.mem_cons_self
    have ek : k' = q := (mixKind Z.P Z.w).inj _ _ _ h1 hk
    subst ek
    have hv' : e.val = _ := hv
    have rest := r.repE pp fun e' he => hh e' (List.mem_cons_of_mem _ he)
    have hkey : ∃ kv, RelV kv e.key ∧ Rep Z F (kd k') kv := by
      rcases keyIs_shape hk' with ⟨i, t, e1, e2⟩ | ⟨x, t, e1, e2⟩
      · subst e1
        exact ⟨.int i, ⟨t, e2⟩, .int i⟩
      · subst e1
        exact ⟨.str x, ⟨t, e2⟩, .str x⟩
    obtain ⟨kv, a1, a2⟩ := hkey
    have kok : keyOk (kd k') = some (kn k') := by cases k' <;> rfl
    exact .cons kok (by rw [h2, kn_hash]; rfl) a1 a2 (by rw [hv']; exact h4) h5 rest
/-- what is found -/
theorem PX.look {n : NestedKey} : ∀ {kvs : List (D × D)} {xs : List (NestedKey × Addr × Value)}, PX Z F kvs xs → (lookD n kvs = none ∧ atKey xs n = none) ∨ ∃ v vv p, lookD n kvs = some v ∧ atKey xs n = some p ∧ RelV vv p.2 ∧ Rep Z F v vv
  | _, _, .nil => .inl ⟨rfl, rfl⟩
  | _, _, .cons (k := k) (n := m) (a := a) (u := u) h1 h2 h3 h4 h5 r => by
    unfold lookD atKey
    rw [h1, List.find?_cons]
    by_cases e : m = n
    · subst e
      rw [if_pos rfl, decide_eq_true rfl]
      exact .inr ⟨_, _, _, rfl, rfl, h4, h5⟩
    · rw [if_neg fun z => e (Option.some.inj z)]
      simp only [decide_eq_false e]
      exact r.look
theorem PY.look {q : Key} : ∀ {kvs : List (D × D)} {xs : List (Key × Value)}, PY Z F kvs xs → (lookD (kn q) kvs = none ∧ valueAt xs q = none) ∨ ∃ v vv u, lookD (kn q) kvs = some v ∧ valueAt xs q = some u ∧ RelV vv u ∧ Rep Z F v vv
  | _, _, .nil => .inl ⟨rfl, rfl⟩
  | _, _, .cons (q := m) (u := u) h4 h5 r => by
    have kok : keyOk (kd m) = some (kn m) := by cases m <;> rfl
    unfold lookD valueAt
    rw [kok, List.find?_cons]
    by_cases e : m = q
    · subst e
      rw [if_pos rfl]
      simp only [decide_true]
      exact .inr ⟨_, _, _, rfl, rfl, h4, h5⟩
    · rw [if_neg fun z => e (kn_inj (Option.some.inj z))]
      simp only [decide_eq_false e]
      exact r.look

/-- a store -/
theorem PX.put_old {k : D} {n : NestedKey} {v : D} {vv : V} {u : Value} (hv : RelV vv u) (rv : Rep Z F v vv) : ∀ {kvs : List (D × D)} {xs : List (NestedKey × Addr × Value)}, PX Z F kvs xs → (lookD n kvs).isSome = true → (xs.map (·.1)).Nodup → PX Z F (storeD k n v kvs) (xs.map (putAt n u))
  | _, _, .nil, h, _ => by cases h
  | _, _, .cons (k := k') (n := m) h1 h2 h3 h4 h5 r, h, nd => by
    unfold storeD
    rw [h1, List.map_cons]
    rw [List.map_cons, List.nodup_cons] at nd
    by_cases e : m = n
    · subst e
      rw [if_pos rfl]
      have hr : ∀ {kvs : List (D × D)} {xs : List (NestedKey × Addr × Value)}, PX Z F kvs xs → m ∉ xs.map (·.1) → xs.map (putAt m u) = xs := fun {kvs xs} _ hm => by
        conv => rhs; rw [← List.map_id xs]
        refine List.map_congr_left fun x hx => ?_
        unfold putAt
        rw [if_neg fun z => hm (by rw [← z]; exact List.mem_map_of_mem hx)]
        rfl
      rw [hr r nd.1]
      unfold putAt
      rw [if_pos rfl]
      exact .cons h1 h2 h3 hv rv r
    · rw [if_neg fun z => e (Option.some.inj z)]
      unfold putAt
      rw [if_neg e]
      unfold lookD at h
      rw [h1, if_neg fun z => e (Option.some.inj z)] at h
      exact .cons h1 h2 h3 h4 h5 (r.put_old hv rv h nd.2)
theorem store_new {k : D} {n : NestedKey} {v : D} : ∀ {kvs : List (D × D)}, lookD n kvs = none → storeD k n v kvs = kvs ++ [(k, v)]
  | [], _ => rfl
  | (a, w) :: r, h => by
    unfold lookD at h
    unfold storeD
    split at h
    · cases h
    · rename_i e
      rw [if_neg e, store_new h]
      rfl
theorem PX.append : ∀ {kvs kws : List (D × D)} {xs ys : List (NestedKey × Addr × Value)}, PX Z F kvs xs → PX Z F kws ys → PX Z F (kvs ++ kws) (xs ++ ys)
  | _, _, _, _, .nil, s => s
  | _, _, _, _, .cons h1 h2 h3 h4 h5 r, s => .cons h1 h2 h3 h4 h5 (r.append s)
theorem PX.mono {F' : Hp} (e : Same F F') : ∀ {kvs : List (D × D)} {xs : List (NestedKey × Addr × Value)}, PX Z F kvs xs → PX Z F' kvs xs
  | _, _, .nil => .nil
  | _, _, .cons h1 h2 h3 h4 h5 r => .cons h1 h2 (h3.mono e) h4 (h5.mono e) (r.mono e)
theorem PX.keys : ∀ {kvs : List (D × D)} {xs : List (NestedKey × Addr × Value)}, PX Z F kvs xs → (kvs.map fun p => keyOk p.1) = (xs.map (·.1)).map some
  | _, _, .nil => rfl
  | _, _, .cons h1 h2 h3 h4 h5 r => by rw [List.map_cons, List.map_cons, List.map_cons, r.keys, h1]
theorem PY.put_old {q : Key} {v : D} {vv : V} {u : Value} (hv : RelV vv u) (rv : Rep Z F v vv) : ∀ {kvs : List (D × D)} {xs : List (Key × Value)}, PY Z F kvs xs → (lookD (kn q) kvs).isSome = true → (xs.map (·.1)).Nodup → PY Z F (storeD (kd q) (kn q) v kvs) (xs.map (fun kv => if kv.1 = q then (kv.1, u) else kv))
  | _, _, .nil, h, _ => by cases h
  | _, _, .cons (q := m) (u := w) h4 h5 r, h, nd => by
    have kok : keyOk (kd m) = some (kn m) := by cases m <;> rfl
    unfold storeD
    rw [kok, List.map_cons]
    rw [List.map_cons, List.nodup_cons] at nd
    by_cases e : m = q
    · subst e
      rw [if_pos rfl]
      have hr : ∀ {xs : List (Key × Value)}, m ∉ xs.map (·.1) → xs.map (fun kv => if kv.1 = m then (kv.1, u) else kv) = xs := fun {xs} hm => by
        conv => rhs; rw [← List.map_id xs]
        refine List.map_congr_left fun x hx => ?_
        rw [if_neg fun z => hm (by rw [← z]; exact List.mem_map_of_mem hx)]
        rfl
      rw [hr nd.1]
      dsimp only
      rw [if_pos rfl]
      exact .cons hv rv r
    · rw [if_neg fun z => e (kn_inj (Option.some.inj z))]
      dsimp only
      rw [if_neg e]
      unfold lookD at h
      rw [kok, if_neg fun z => e (kn_inj (Option.some.inj z))] at h
      exact .cons h4 h5 (r.put_old hv rv h nd.2)
theorem PY.append : ∀ {kvs kws : List (D × D)} {xs ys : List (Key × Value)}, PY Z F kvs xs → PY Z F kws ys → PY Z F (kvs ++ kws) (xs ++ ys)
  | _, _, _, _, .nil, s => s
  | _, _, _, _, .cons h4 h5 r, s => .cons h4 h5 (r.append s)
theorem PY.keys : ∀ {kvs : List (D × D)} {xs : List (Key × Value)}, PY Z F kvs xs → (kvs.map fun p => keyOk p.1) = (xs.map (·.1)).map fun q => some (kn q)
  | _, _, .nil => rfl
  | _, _, .cons (q := q) h4 h5 r => by
    have kok : keyOk (kd q) = some (kn q) := by cases q <;> rfl
    rw [List.map_cons, List.map_cons, List.map_cons, r.keys, kok]
theorem PY.mono {F' : Hp} (e : Same F F') : ∀ {kvs : List (D × D)} {xs : List (Key × Value)}, PY Z F kvs xs → PY Z F' kvs xs
  | _, _, .nil => .nil
  | _, _, .cons h4 h5 r => .cons h4 (h5.mono e) (r.mono e)
theorem nodup_of_map {α β : Type} (f : α → β) : ∀ {l : List α}, (l.map f).Nodup → l.Nodup
  | [], _ => List.nodup_nil
  | a :: l, h => by
    rw [List.map_cons, List.nodup_cons] at h
    exact List.nodup_cons.mpr ⟨fun z => h.1 (List.mem_map_of_mem z), nodup_of_map f h.2⟩
theorem nodup_map {α β : Type} (f : α → β) (hf : ∀ a b, f a = f b → a = b) : ∀ {l : List α}, l.Nodup → (l.map f).Nodup
  | [], _ => List.nodup_nil
  | a :: l, h => by
    rw [List.nodup_cons] at h
    rw [List.map_cons, List.nodup_cons]
    refine ⟨fun z => ?_, nodup_map f hf h.2⟩
    obtain ⟨b, hb, e⟩ := List.mem_map.mp z
    exact h.1 (hf _ _ e ▸ hb)

/-! ### the dict in the machine's heap -/
theorem DcO.get (I : Inv X pins σ H s) {d : Addr} {o : Obj} {es : Array DictEntry} {ep : Nat} (h : DcO H d o es ep) : s.heap.get? d = some o := by
  have q := I.hok d _ h.at_
  exact q.1
theorem dco_ok {P : Program} {w : World} {h : Heap} {d : Addr} {o : Obj} (e : h.get? d = some o) : ObjOk P w H h d (dco d o) := ⟨e, ⟨o, e⟩, fun h1 h2 a k => k o a⟩
theorem dct_h (I : Inv X pins σ H s) {d : Addr} {o : Obj} {es : Array DictEntry} {ep : Nat} (h : DcO H d o es ep) {kvs : List (D × D)} (re : RepE (zx X cls exc) F kvs es.toList) (sF : Same F H) (nd : (kvs.map fun p => keyOk p.1).Nodup) (ht : (kvs.all fun p => isTup p.1) = true) :
    ∃ xs, PX (zx X cls exc) F kvs xs ∧ s.heap.DictOfH (nestedKind X.prog X.w) d xs := by
  obtain ⟨xs, px, e⟩ := re.px ht
  refine ⟨xs, px, o, es, ep, h.get I, h.ex, h.dat, e, ?_, ?_⟩
  · have all : ∀ {kvs : List (D × D)} {xs : List (NestedKey × Addr × Value)}, PX (zx X cls exc) F kvs xs → ∀ x ∈ xs, (nestedKind X.prog X.w).is s.heap x.1 x.2.1 := by
      intro kvs xs p
      induction p with
      | nil => exact fun x hx => nomatch hx
      | @cons k v n a vv u r xs h1 h2 h3 h4 h5 hr ih =>
        intro x hx
        rcases List.mem_cons.mp hx with z | z
        · subst z
          cases k with
          | tup ds =>
            obtain ⟨q1, q2⟩ := keyOk_tup h1
            exact ⟨Rep.nested (cls := cls) (exc := exc) I (h3.mono sF) rfl q1, q2⟩
          | _ => cases h2
        · exact ih x z
    exact all px
  · rw [px.keys] at nd
    exact nodup_of_map some nd
theorem dct_k (I : Inv X pins σ H s) {d : Addr} {o : Obj} {es : Array DictEntry} {ep : Nat} (h : DcO H d o es ep) {kvs : List (D × D)} (re : RepE (zx X cls exc) F kvs es.toList) (nd : (kvs.map fun p => keyOk p.1).Nodup) (ht : (kvs.all fun p => !isTup p.1) = true) :
    ∃ xs, PY (zx X cls exc) F kvs xs ∧ s.heap.DictOf (mixKind X.prog X.w) d xs := by
  obtain ⟨xs, px, pp, pk⟩ := re.py ht
  refine ⟨xs, px, o, es, ep, h.get I, h.ex, h.dat, fun e he => pk e (by simpa using he), pp, ?_⟩
  rw [px.keys] at nd
  exact nodup_of_map _ nd
theorem oneMake_t {k : D} {kvs : List (D × D)} (h : oneMake k kvs = true) (hk : isTup k = true) : (kvs.all fun p => isTup p.1) = true := by
  unfold oneMake at h
  rw [hk] at h
  simpa using h
theorem oneMake_f {k : D} {kvs : List (D × D)} (h : oneMake k kvs = true) (hk : isTup k = false) : (kvs.all fun p => !isTup p.1) = true := by
  unfold oneMake at h
  rw [hk] at h
  simpa using h
end
end VL
end
section
/-! V9: comparisons of data. -/
namespace VL
open PySem PySem.Spec PyProof.Rows L2

section
variable {X : Cx} {cls : Clz} {exc : List (Addr × List Str)} {pins : List (Addr × Obj)} {σ : L2.St} {F H : Hp} {s : Shared} {Z : Zx}
mutual
theorem Rep.dp : ∀ {d : D} {v : V}, Rep Z H d v → plainD d = true → Dp Z.K H v (toP d)
  | .non, _, .non, _ => .non
  | .bl b, _, .bl _, _ => .bl b
  | .int i, _, .int _, _ => .int i
  | .str x, _, .str _, _ => .str x
  | .tup ds, _, .tup h hr, e => .tup h.sqT (RepL.dp hr e)
  | .lst ds, _, .lst h hr, e => .lst (.of h) (RepL.dp hr e)
  | .dct _, _, _, e => by cases e
  | .obj _ _, _, _, e => by cases e
  | .rng _ _ _ _, _, _, e => by cases e
theorem RepL.dp : ∀ {ds : List D} {vs : List V}, RepL Z H ds vs → plainL ds = true → DpAll Z.K H vs (toPL ds)
  | [], _, .nil, _ => .nil
  | d :: ds, _, .cons h hr, e => by
    have e' : (plainD d && plainL ds) = true := e
    rw [Bool.and_eq_true] at e'
    exact .cons (Rep.dp h e'.1) (RepL.dp hr e'.2)
end
mutual
theorem canLay_toP : ∀ d : D, plainD d = true → (toP d).canLay0 = true
  | .non, _ => rfl
  | .bl b, _ => rfl
  | .int i, _ => rfl
  | .str x, e => e
  | .tup ds, e => canLay_toPL ds e
  | .lst ds, e => canLay_toPL ds e
  | .dct _, e => by cases e
  | .obj _ _, e => by cases e
  | .rng _ _ _ _, e => by cases e
theorem canLay_toPL : ∀ ds : List D, plainL ds = true → PyData.canLayAll0 (toPL ds) = true
  | [], _ => rfl
  | d :: ds, e => by
    have e' : (plainD d && plainL ds) = true := e
    rw [Bool.and_eq_true] at e'
    show ((toP d).canLay0 && PyData.canLayAll0 (toPL ds)) = true
    rw [canLay_toP d e'.1, canLay_toPL ds e'.2]
    rfl
end
mutual
theorem depth_toP : ∀ d : D, (toP d).depth = depthD d
  | .non => rfl
  | .bl b => rfl
  | .int i => rfl
  | .str x => rfl
  | .tup ds => by
    show PyData.depth (.tuple (toPL ds)) = depthL ds + 1
    rw [PyData.depth, depth_toPL ds]
  | .lst ds => by
    show PyData.depth (.list (toPL ds)) = depthL ds + 1
    rw [PyData.depth, depth_toPL ds]
  | .dct _ => rfl
  | .obj _ _ => rfl
  | .rng _ _ _ _ => rfl
  | .exn _ _ => rfl
theorem depth_toPL : ∀ ds : List D, PyData.depthAll (toPL ds) = depthL ds
  | [] => rfl
  | d :: ds => by
    show PyData.depthAll (toP d :: toPL ds) = max (depthD d) (depthL ds)
    rw [PyData.depthAll, depth_toP d, depth_toPL ds]
end
mutual
theorem eqv_toP : ∀ a b : D, plainD a = true → plainD b = true → eqv a b = PyData.eqv (toP a) (toP b)
  | .non, b, _, hb => by cases b <;> first | rfl | (cases hb)
  | .bl x, b, _, hb => by
    cases b <;> first | rfl | (cases hb)
  | .int i, b, _, hb => by cases b <;> first | rfl | (cases hb)
  | .str x, b, _, hb => by
    cases b with
    | str y =>
      show decide (x = y) = (x == y)
      by_cases h : x = y
      · subst h; simp
      · simp [h]
    | _ => first | rfl | (cases hb)
  | .tup xs, b, ha, hb => by
    cases b with
    | tup ys => exact eqv_toPL xs ys ha hb
    | _ => first | rfl | (cases hb)
  | .lst xs, b, ha, hb => by
    cases b with
    | lst ys => exact eqv_toPL xs ys ha hb
    | _ => first | rfl | (cases hb)
  | .dct _, _, ha, _ => by cases ha
  | .obj _ _, _, ha, _ => by cases ha
  | .rng _ _ _ _, _, ha, _ => by cases ha
theorem eqv_toPL : ∀ xs ys : List D, plainL xs = true → plainL ys = true → eqvL xs ys = PyData.eqvAll (toPL xs) (toPL ys)
  | [], [], _, _ => rfl
  | [], _ :: _, _, _ => rfl
  | _ :: _, [], _, _ => rfl
  | x :: xs, y :: ys, ha, hb => by
    have ha' : (plainD x && plainL xs) = true := ha
    have hb' : (plainD y && plainL ys) = true := hb
    rw [Bool.and_eq_true] at ha' hb'
    show (eqv x y && eqvL xs ys) = (PyData.eqv (toP x) (toP y) && PyData.eqvAll (toPL xs) (toPL ys))
    rw [eqv_toP x y ha'.1 hb'.1, eqv_toPL xs ys ha'.2 hb'.2]
end
theorem shaped_toP {d : D} (h : plainD d = true) (hd : depthD d ≤ 60) : SeqAt.shaped (toP d) = true := by
  unfold SeqAt.shaped
  rw [canLay_toP d h, depth_toP d, Bool.true_and, decide_eq_true_eq]
  omega
theorem freeze_plain {d : D} (h : plainD d = true) : freezable d = true := by cases d <;> first | rfl | cases h
theorem any_toP (x : D) (hx : plainD x = true) : ∀ ys : List D, plainL ys = true → ((toPL ys).any fun y => PyData.eqv y (toP x)) = ys.any fun y => eqv y x
  | [], _ => rfl
  | y :: ys, h => by
    have h' : (plainD y && plainL ys) = true := h
    rw [Bool.and_eq_true] at h'
    show (PyData.eqv (toP y) (toP x) || (toPL ys).any _) = (eqv y x || ys.any _)
    rw [any_toP x hx ys h'.2, eqv_toP y x h'.1 hx]

def copOf : Cop → CmpOp
  | .eq => .Eq
  | .ne => .NotEq
  | .lt => .Lt
  | .le => .LtE
  | .gt => .Gt
  | .ge => .GtE
  | .isin => .In
  | .notin => .NotIn
  | .isN => .Is
  | .notN => .IsNot
def rCmp (Z : Zx) (op : Cop) : R2 := fun x y H Q => ∃ F dx dy k, Same F H ∧ View Z F H x dx ∧ View Z F H y dy ∧ cmpD op dx dy = some k ∧ Q (.bl k) H

/-- x in d, x not in d -/
theorem in_dict (hu : X.A.units + 70 < cLine) (neg : Bool) {kvs : List (D × D)} {x : D} {y v : V} {a u : Value} {Q : VK} (I : Inv X pins σ H s) (sF : Same F H) (hd : View (zx X cls exc) F H y (.dct kvs)) (hx : View (zx X cls exc) F H v x)
    (rx : RelV v u) (ry : RelV y a) {n : NestedKey} (hk : keyOk x = some n) (ho : oneMake x kvs = true) (q : Q (.bl (if neg then !(lookD n kvs).isSome else (lookD n kvs).isSome)) H) :
    wpAny (model X.prog X.w) X.A (compareOp (if neg then .NotIn else .In) u a) (EP X pins σ Q) X.xe s := by
  obtain ⟨d, o, es, ep, rfl, hdc, re, nd, hz⟩ := hd
  cases ry
  cases ht : isTup x with
  | true =>
    obtain ⟨xs, px, hm⟩ := dct_h I hdc re sF nd (oneMake_t ho ht)
    cases x with
    | tup ds =>
      obtain ⟨k1, k2⟩ := keyOk_tup hk
      obtain ⟨b, vs, rfl, hb, hr⟩ := View.tupE hx sF
      cases rx
      have hkey : (nestedKind X.prog X.w).is s.heap n b := ⟨Rep.nested (cls := cls) (exc := exc) I (View.rep hx sF rfl) rfl k1, k2⟩
      have hroom : (nestedKind X.prog X.w).room X.A.in1 := by show X.A.units + 1 + 8 < cLine; omega
      have el : (atKey xs n).isSome = (lookD n kvs).isSome := by
        rcases px.look (n := n) with ⟨e1, e2⟩ | ⟨_, _, _, e1, e2, _, _⟩ <;> rw [e1, e2] <;> rfl
      cases neg with
      | false =>
        refine wpAny_in_heap (knd := nestedKind X.prog X.w) hroom hkey hdc.sys hm ?_
        rw [el]
        exact ⟨.bl _, H, I.tok _, rfl, q⟩
      | true =>
        refine wpAny_notIn_heap (knd := nestedKind X.prog X.w) hroom hkey hdc.sys hm ?_
        rw [el]
        exact ⟨.bl _, H, I.tok _, rfl, q⟩
    | _ => cases ht
  | false =>
    obtain ⟨xs, px, hm⟩ := dct_k I hdc re nd (oneMake_f ho ht)
    obtain ⟨k, rfl, rfl⟩ := keyOk_leaf hk ht
    have hkey : (mixKind X.prog X.w).is k u = true := by
      cases k with
      | inl i => cases hx; obtain ⟨t, rfl⟩ := rx; exact keyIs_int i t
      | inr z => cases hx; obtain ⟨t, rfl⟩ := rx; exact keyIs_str z t
    have el : (valueAt xs k).isSome = (lookD (kn k) kvs).isSome := by
      rcases px.look (q := k) with ⟨e1, e2⟩ | ⟨_, _, _, e1, e2, _, _⟩ <;> rw [e1, e2] <;> rfl
    cases neg with
    | false =>
      refine wpAny_in_of hkey hdc.sys hm.mapOf ?_
      rw [el]
      exact ⟨.bl _, H, I.tok _, rfl, q⟩
    | true =>
      refine wpAny_notIn_of hkey hdc.sys hm.mapOf ?_
      rw [el]
      exact ⟨.bl _, H, I.tok _, rfl, q⟩
theorem str_one {y : Str} (h : y.length = 1) : y = ⟨#[y.cps.getD 0 0]⟩ := by
  obtain ⟨⟨l⟩⟩ := y
  match l, h with
  | [c], _ => rfl
theorem contains_dec (l : List Nat) (c : Nat) : l.contains c = decide (c ∈ l) := by
  rw [Bool.eq_iff_iff]
  simp
theorem in_op (hu : X.A.units + 70 < cLine) (neg : Bool) {x y : D} {vx vy : V} {u a : Value} {k : Bool} {Q : VK} (I : Inv X pins σ H s) (sF : Same F H) (hx : View (zx X cls exc) F H vx x) (hy : View (zx X cls exc) F H vy y)
    (rx : RelV vx u) (ry : RelV vy a) (hk : inD x y = some k) (q : Q (.bl (if neg then !k else k)) H) : wpAny (model X.prog X.w) X.A (compareOp (if neg then .NotIn else .In) u a) (EP X pins σ Q) X.xe s := by
  unfold inD at hk
  split at hk
  · rename_i ys
    split at hk
    · rename_i hc
      cases hk
      simp only [Bool.and_eq_true, decide_eq_true_eq] at hc
      obtain ⟨⟨⟨p1, p2⟩, p3⟩, p4⟩ := hc
      obtain ⟨as, r1⟩ := Dp.reads I _ _ _ ((hx.rep sF (freeze_plain p1)).dp p1) rx
      obtain ⟨bs, r2⟩ := Dp.reads I _ _ _ ((hy.rep sF rfl).dp (show plainL ys = true from p2)) ry
      have hroom : X.A.units + 1 + min (PyData.depthAll (toPL ys)) (toP x).depth < cLine := by
        rw [depth_toP, depth_toPL]
        have := Nat.min_le_right (depthL ys) (depthD x)
        omega
      rw [← any_toP x p1 ys p2] at q
      cases neg with
      | false => exact SeqAt.in_list_reads r2 r1 (canLay_toPL ys p2) (canLay_toP x p1) hroom ⟨.bl _, H, I, rfl, q⟩
      | true => exact SeqAt.notIn_list_reads r2 r1 (canLay_toPL ys p2) (canLay_toP x p1) hroom ⟨.bl _, H, I, rfl, q⟩
    · cases hk
  · rename_i ys
    split at hk
    · rename_i hc
      cases hk
      simp only [Bool.and_eq_true, decide_eq_true_eq] at hc
      obtain ⟨⟨⟨p1, p2⟩, p3⟩, p4⟩ := hc
      obtain ⟨as, r1⟩ := Dp.reads I _ _ _ ((hx.rep sF (freeze_plain p1)).dp p1) rx
      obtain ⟨bs, r2⟩ := Dp.reads I _ _ _ ((hy.rep sF rfl).dp (show plainL ys = true from p2)) ry
      have hroom : X.A.units + 1 + min (PyData.depthAll (toPL ys)) (toP x).depth < cLine := by
        rw [depth_toP, depth_toPL]
        have := Nat.min_le_right (depthL ys) (depthD x)
        omega
      rw [← any_toP x p1 ys p2] at q
      cases neg with
      | false => exact SeqAt.in_tuple_reads r2 r1 (canLay_toPL ys p2) (canLay_toP x p1) hroom ⟨.bl _, H, I, rfl, q⟩
      | true => exact SeqAt.notIn_tuple_reads r2 r1 (canLay_toPL ys p2) (canLay_toP x p1) hroom ⟨.bl _, H, I, rfl, q⟩
    · cases hk
  · rename_i kvs
    split at hk
    · rename_i n hn
      split at hk
      · rename_i ho
        cases hk
        exact in_dict hu neg I sF hy hx rx ry hn ho q
      · cases hk
    · cases hk
  · rename_i z
    split at hk
    · rename_i y'
      split at hk
      · rename_i hl
        cases hk
        cases hx
        cases hy
        rw [contains_dec] at q
        generalize hc : y'.cps.getD 0 0 = c at q
        have hy' := str_one hl
        rw [hc] at hy'
        subst hy'
        cases neg with
        | false => exact op_in_sign pins s σ H _ _ _ _ Q I rx ry ⟨c, z, rfl, rfl, q⟩
        | true => exact op_notIn_sign pins s σ H _ _ _ _ Q I rx ry ⟨c, z, rfl, rfl, q⟩
      · cases hk
    · cases hk
  · cases hk
theorem lt_dec {i j : Int} {Q : VK} {k : Bool} (h : k = decide (i < j)) (q : Q (.bl k) H) : Q (.bl (decide (i < j))) H := h ▸ q
theorem dec_strV (x y : Str) : decide (V.str x = V.str y) = decide (x = y) := decide_eq_decide.mpr ⟨fun h => V.str.inj h, fun h => by rw [h]⟩
theorem alike_toP {x y : D} (h : alikeD x y = true) : plainD x = true ∧ plainD y = true ∧ PySem.W.alike (toP x) (toP y) = true ∧ toP x ≠ .none ∧ depthD x ≤ 60 ∧ depthD y ≤ 60 := by
  unfold alikeD at h
  simp only [Bool.and_eq_true, decide_eq_true_eq] at h
  obtain ⟨⟨⟨⟨⟨h1, h2⟩, h3⟩, h4⟩, h5⟩, h6⟩ := h
  refine ⟨h1, h2, h3, ?_, h4, h5⟩
  cases x <;> intro z <;> first | (exact absurd h6 Bool.false_ne_true) | (exact absurd h1 Bool.false_ne_true) | (cases z)
theorem op_cmp (hu : X.A.units + 70 < cLine) (op : Cop) : OpR X (compareOp (copOf op)) (rCmp (zx X cls exc) op) := by
  intro pins s σ H x y v u Q I rx ry ⟨F, dx, dy, k, e, vx, vy, hk, q⟩
  have hin : ∀ neg : Bool, (∃ k', inD dx dy = some k' ∧ k = if neg then !k' else k') → wpAny (model X.prog X.w) X.A (compareOp (if neg then .NotIn else .In) v u) (EP X pins σ Q) X.xe s := fun neg ⟨k', h1, h2⟩ => by
    subst h2
    exact in_op hu neg I e vx vy rx ry h1 q
  have hcm : alikeD dx dy = true → ∃ as bs, Reads s.heap v (toP dx) as ∧ Reads s.heap u (toP dy) bs ∧ X.A.units + min (toP dx).depth (toP dy).depth < cLine := fun ha => by
    obtain ⟨p1, p2, p3, p4, p5, p6⟩ := alike_toP ha
    obtain ⟨as, r1⟩ := Dp.reads I _ _ _ ((vx.rep e (freeze_plain p1)).dp p1) rx
    obtain ⟨bs, r2⟩ := Dp.reads I _ _ _ ((vy.rep e (freeze_plain p2)).dp p2) ry
    refine ⟨as, bs, r1, r2, ?_⟩
    rw [depth_toP, depth_toP]
    have := Nat.min_le_left (depthD dx) (depthD dy)
    omega
  have fin : EP X pins σ Q (.bool k) s := ⟨.bl k, H, I, rfl, q⟩
  unfold cmpD at hk
  split at hk
  · cases vx; cases vy; cases hk
    exact op_eq pins s σ H _ _ v u Q I rx ry ⟨rfl, by rw [dec_strV]; exact q⟩
  · cases vx; cases vy; cases hk
    exact op_ne pins s σ H _ _ v u Q I rx ry ⟨rfl, by rw [dec_strV]; exact q⟩
  · split at hk
    · rename_i hc
      cases hk
      simp only [Bool.and_eq_true, decide_eq_true_eq] at hc
      obtain ⟨⟨⟨p1, p2⟩, p3⟩, p4⟩ := hc
      refine op_eqD (by omega) pins s σ H _ _ v u Q I rx ry ⟨toP dx, toP dy, (vx.rep e (freeze_plain p1)).dp p1, (vy.rep e (freeze_plain p2)).dp p2, shaped_toP p1 p3, shaped_toP p2 p4, ?_⟩
      rw [← eqv_toP dx dy p1 p2]
      exact q
    · cases hk
  · split at hk
    · rename_i hc
      cases hk
      simp only [Bool.and_eq_true, decide_eq_true_eq] at hc
      obtain ⟨⟨⟨p1, p2⟩, p3⟩, p4⟩ := hc
      refine op_neD (by omega) pins s σ H _ _ v u Q I rx ry ⟨toP dx, toP dy, (vx.rep e (freeze_plain p1)).dp p1, (vy.rep e (freeze_plain p2)).dp p2, shaped_toP p1 p3, shaped_toP p2 p4, ?_⟩
      rw [← eqv_toP dx dy p1 p2]
      exact q
    · cases hk
  · cases vx; cases vy; cases hk
    exact op_lt pins s σ H _ _ v u Q I rx ry ⟨_, _, rfl, rfl, q⟩
  · cases vx; cases vy; cases hk
    exact op_gt pins s σ H _ _ v u Q I rx ry ⟨_, _, rfl, rfl, q⟩
  · cases vx; cases vy; cases hk
    exact op_le pins s σ H _ _ v u Q I rx ry ⟨_, _, rfl, rfl, q⟩
  · cases vx; cases vy; cases hk
    exact op_ge pins s σ H _ _ v u Q I rx ry ⟨_, _, rfl, rfl, q⟩
  · split at hk
    · rename_i hc
      cases hk
      obtain ⟨as, bs, r1, r2, r3⟩ := hcm hc
      obtain ⟨p1, p2, p3, p4, p5, p6⟩ := alike_toP hc
      exact PySem.W.lt_data r1 r2 p3 p4 r3 fin
    · cases hk
  · split at hk
    · rename_i hc
      cases hk
      obtain ⟨as, bs, r1, r2, r3⟩ := hcm hc
      obtain ⟨p1, p2, p3, p4, p5, p6⟩ := alike_toP hc
      exact PySem.W.gt_data r1 r2 p3 p4 r3 fin
    · cases hk
  · split at hk
    · rename_i hc
      cases hk
      obtain ⟨as, bs, r1, r2, r3⟩ := hcm hc
      obtain ⟨p1, p2, p3, p4, p5, p6⟩ := alike_toP hc
      exact PySem.W.le_data r1 r2 p3 p4 r3 fin
    · cases hk
  · split at hk
    · rename_i hc
      cases hk
      obtain ⟨as, bs, r1, r2, r3⟩ := hcm hc
      obtain ⟨p1, p2, p3, p4, p5, p6⟩ := alike_toP hc
      exact PySem.W.ge_data r1 r2 p3 p4 r3 fin
    · cases hk
  · exact hin false ⟨k, hk, rfl⟩
  · obtain ⟨k', h1, h2⟩ := Option.map_eq_some_iff.mp hk
    exact hin true ⟨k', h1, h2.symm⟩
  · cases vy
    refine op_isN pins s σ H _ _ v u Q I rx ry ⟨rfl, ?_⟩
    have e2 : decide (x = V.non) = k := by
      cases dx with
      | non => cases vx; cases hk; rfl
      | tup ds =>
        obtain ⟨a, vs, rfl, _⟩ := View.tupE vx e
        cases hk; rfl
      | lst ds => obtain ⟨a, vs, rfl, _⟩ := vx; cases hk; rfl
      | dct ds => obtain ⟨a, _, _, _, rfl, _⟩ := vx; cases hk; rfl
      | obj c ds => obtain ⟨a, _, _, rfl, _⟩ := vx; cases hk; rfl
      | rng _ _ _ _ => obtain ⟨a, rfl⟩ := vx; cases hk; rfl
      | _ => cases vx; cases hk; rfl
    rw [e2]
    exact q
  · cases vy
    refine op_notN pins s σ H _ _ v u Q I rx ry ⟨rfl, ?_⟩
    have e2 : (!decide (x = V.non)) = k := by
      cases dx with
      | non => cases vx; cases hk; rfl
      | tup ds =>
        obtain ⟨a, vs, rfl, _⟩ := View.tupE vx e
        cases hk; rfl
      | lst ds => obtain ⟨a, vs, rfl, _⟩ := vx; cases hk; rfl
      | dct ds => obtain ⟨a, _, _, _, rfl, _⟩ := vx; cases hk; rfl
      | obj c ds => obtain ⟨a, _, _, rfl, _⟩ := vx; cases hk; rfl
      | rng _ _ _ _ => obtain ⟨a, rfl⟩ := vx; cases hk; rfl
      | _ => cases vx; cases hk; rfl
    rw [e2]
    exact q
  · cases hk
  · cases hk
end
end VL
end
section
/-! V10: expressions: names, constants, operators, tests, subscripts, displays. -/
namespace VL
open PySem PySem.Spec PyProof.Rows L2

section
variable {X : Cx} {cls : Clz} {exc : List (Addr × List Str)} {W : WX} {G : List Fd} {C : List D} {e a b c : Expr} {xa xb xc : Ex} {pos : Pos}
abbrev tE (X : Cx) (cls : Clz) (exc : List (Addr × List Str)) (W : WX) (G : List Fd) (C : List D) (x : Ex) : TE := tV (zx X cls exc) W (evE G C x)
variable {Z : Zx} {r r' r2 : Fr} {σ : L2.St} {F F' F2 H H' H2 : Hp} {fp fp' fp2 : Nat → List Addr}
theorem slot_val (R : Rel Z r σ F H fp) {i : Nat} {d : D} (h : slotD r i = some d) : ∃ v, σ[i]? = some (some v) := by
  unfold slotD at h
  split at h
  · rename_i b d' e
    cases b with
    | false => obtain ⟨v, e1, _⟩ := R.fro i d' e; exact ⟨v, e1⟩
    | true => obtain ⟨p, e1, _⟩ := R.own i d' e; exact ⟨_, e1⟩
  · cases h
theorem pe_varV {i : Nat} {x : Str} (hN : X.N[i]? = some x) (hv : Vis X.env.scope x) (hd : (x == ("__debug__" : Str)) = false) (hcd : (x == ("__classdict__" : Str)) = false) : PE X (.Name x pos) (tE X cls exc W G C (.var i)) := by
  refine (pe_var hN hv hd hcd).cons fun σ H Q ⟨r, F, fp, R, g⟩ => ?_
  rw [evE] at g
  split at g
  · rename_i d hs
    obtain ⟨v, hv⟩ := slot_val R hs
    exact ⟨v, hv, g v [] F H fp (.refl ..) R ⟨rfl, hv⟩ fun _ z => nomatch z⟩
  · exact g.elim
/-- constants -/
def cstOk : D → Const → Bool
  | .int i, .int j => decide (i = j)
  | .bl a, .bool b => a == b
  | .str x, .str y => decide (x = y)
  | .non, .none => true
  | _, _ => false
theorem fro_now {d : D} {v : V} {Q : VK} {b : Bs} (g : GdG Z σ (PVl Z σ) b W Q (.ok (.fro d) r)) (e : Ext b.r b.fp b.F b.H r fp F H) (R : Rel Z r σ F H fp) (h : Rep Z F d v) : Q v H :=
  g v [] F H fp e R ⟨rfl, h⟩ fun _ z => nomatch z
theorem pe_cstV {d : D} {k : Const} {j : Nat} (h : cstOk d k = true) : PE X (.Constant k j pos) (tE X cls exc W G C (.cst d)) := by
  unfold cstOk at h
  split at h
  · cases of_decide_eq_true h
    exact pe_int.cons fun σ H Q ⟨r, F, fp, R, g⟩ => fro_now g (.refl ..) R (.int _)
  · cases beq_iff_eq.mp h
    exact pe_bl.cons fun σ H Q ⟨r, F, fp, R, g⟩ => fro_now g (.refl ..) R (.bl _)
  · cases of_decide_eq_true h
    exact pe_str.cons fun σ H Q ⟨r, F, fp, R, g⟩ => fro_now g (.refl ..) R (.str _)
  · exact pe_non.cons fun σ H Q ⟨r, F, fp, R, g⟩ => fro_now g (.refl ..) R .non
  · cases h
/-- -3 -/
theorem pe_negV {i : Int} {k : Nat} {p : Pos} : PE X (.UnaryOp .USub (.Constant (.int i) k p) pos) (tE X cls exc W G C (.cst (.int (-i)))) :=
  (pe_un un_neg pe_int).cons fun σ H Q ⟨r, F, fp, R, g⟩ => ⟨i, rfl, fro_now g (.refl ..) R (.int _)⟩
/-- a constant of the module -/
theorem pe_glbV {j : Nat} {x : Str} {d : D} {v : V} {u : Value} (hC : C[j]? = some d) (hg : Gl X x) (hm : X.mg x = some u) (r : RelV v u) (hr : ∀ F, Rep (zx X cls exc) F d v) (hd : (x == ("__debug__" : Str)) = false) : PE X (.Name x pos) (tE X cls exc W G C (.glb j)) := by
  refine (pe_glob hg hm r hd).cons fun σ H Q ⟨r, F, fp, R, g⟩ => ?_
  rw [evE] at g
  simp only [hC] at g
  exact fro_now g (.refl ..) R (hr F)
theorem pe_binV {op : Bop} {o : Operator} (ho : o = bopOf op) (ha : PE X a (tE X cls exc W G C xa)) (hb : PE X b (tE X cls exc W G C xb)) : PE X (.BinOp a o b pos) (tE X cls exc W G C (.bin op xa xb)) := by
  subst ho
  refine (pe_op (op_bin (cls := cls) (exc := exc) op) ha hb).cons fun σ H Q ⟨r, F, fp, R, g⟩ => ?_
  rw [evE] at g
  refine step R (.refl ..) g |> fun h => ?_
  obtain ⟨r0, F0, fp0, R0, g0⟩ := h
  refine ⟨r0, F0, fp0, R0, g0.mono fun x H1 ⟨va, r1, F1, fp1, f1, A1, g1⟩ => ?_⟩
  obtain ⟨r2, F2, fp2, R2, g2⟩ := step A1.R A1.e g1
  refine ⟨r2, F2, fp2, R2, g2.mono fun y H2 ⟨vb, r3, F3, fp3, f3, A3, g3⟩ => ?_⟩
  have pa := A1.p.ext A3.e1
  split at g3
  · rename_i dx dy h1 h2
    obtain ⟨res, hres, g4⟩ := g3.orBad
    exact ⟨F3, dx, dy, res, A3.R.same, pa.view A3.R h1, A3.p.view A3.R h2, hres, .of A3.R A3.e (fun i z => by
      subst z
      unfold binD at hres
      split at hres <;> first | (split at hres <;> cases hres) | cases hres) g4⟩
  · exact g3.elim
theorem conv_cmp {op : Cop} (σ : L2.St) (H : Hp) (Q : VK) (h : tE X cls exc W G C (.cmp op xa xb) σ H Q) : tOp (rCmp (zx X cls exc) op) (tE X cls exc W G C xa) (tE X cls exc W G C xb) σ H Q := by
  obtain ⟨r, F, fp, R, g⟩ := h
  rw [evE] at g
  obtain ⟨r0, F0, fp0, R0, g0⟩ := step R (.refl ..) g
  refine ⟨r0, F0, fp0, R0, g0.mono fun x H1 ⟨va, r1, F1, fp1, f1, A1, g1⟩ => ?_⟩
  obtain ⟨r2, F2, fp2, R2, g2⟩ := step A1.R A1.e g1
  refine ⟨r2, F2, fp2, R2, g2.mono fun y H2 ⟨vb, r3, F3, fp3, f3, A3, g3⟩ => ?_⟩
  have pa := A1.p.ext A3.e1
  split at g3
  · rename_i dx dy h1 h2
    obtain ⟨k, hk, g4⟩ := g3.orBad
    exact ⟨F3, dx, dy, k, A3.R.same, pa.view A3.R h1, A3.p.view A3.R h2, hk, fro_now g4 A3.e A3.R (.bl k)⟩
  · exact g3.elim
theorem pe_cmpV (hu : X.A.units + 70 < cLine) {op : Cop} {o : CmpOp} (ho : o = copOf op) (hm : behindInMarks o b = false) (ha : PE X a (tE X cls exc W G C xa)) (hb : PE X b (tE X cls exc W G C xb)) : PE X (.Compare a [o] [b] pos) (tE X cls exc W G C (.cmp op xa xb)) := by
  subst ho
  exact (pe_cmpR (op_cmp (cls := cls) (exc := exc) hu op) ha hb hm).cons conv_cmp
theorem pt_cmpV (hu : X.A.units + 70 < cLine) {op : Cop} {o : CmpOp} (ho : o = copOf op) (hm : behindInMarks o b = false) (ha : PE X a (tE X cls exc W G C xa)) (hb : PE X b (tE X cls exc W G C xb)) : PT X (.Compare a [o] [b] pos) (tB (tE X cls exc W G C (.cmp op xa xb))) := by
  subst ho
  exact (pt_cmpR (op_cmp (cls := cls) (exc := exc) hu op) ha hb hm).cons fun σ H Q h => conv_cmp σ H _ h
theorem conv_chn {op op' : Cop} (σ : L2.St) (H : Hp) (Q : VK) (h : tE X cls exc W G C (.chn op op' xa xb xc) σ H Q) : tChain (rCmp (zx X cls exc) op) (rCmp (zx X cls exc) op') (tE X cls exc W G C xa) (tE X cls exc W G C xb) (tE X cls exc W G C xc) σ H Q := by
  obtain ⟨r, F, fp, R, g⟩ := h
  rw [evE] at g
  obtain ⟨r0, F0, fp0, R0, g0⟩ := step R (.refl ..) g
  refine ⟨r0, F0, fp0, R0, g0.mono fun x H1 ⟨va, r1, F1, fp1, f1, A1, g1⟩ => ?_⟩
  obtain ⟨r2, F2, fp2, R2, g2⟩ := step A1.R A1.e g1
  refine ⟨r2, F2, fp2, R2, g2.mono fun y H2 ⟨vb, r3, F3, fp3, f3, A3, g3⟩ => ?_⟩
  have pa := A1.p.ext A3.e1
  split at g3
  · rename_i dx dy h1 h2
    obtain ⟨k, hk, g4⟩ := g3.orBad
    refine ⟨F3, dx, dy, k, A3.R.same, pa.view A3.R h1, A3.p.view A3.R h2, hk, k, rfl, ?_⟩
    cases k with
    | false => exact iteF (fro_now g4 A3.e A3.R (.bl false))
    | true =>
      refine iteT ?_
      obtain ⟨r5, F5, fp5, R5, g5⟩ := step A3.R A3.e g4
      refine ⟨r5, F5, fp5, R5, g5.mono fun z H5 ⟨vc, r6, F6, fp6, f6, A6, g6⟩ => ?_⟩
      have pb := A3.p.ext A6.e1
      split at g6
      · rename_i dy' dz h3 h4
        obtain ⟨k2, hk2, g7⟩ := g6.orBad
        exact ⟨F6, dy', dz, k2, A6.R.same, pb.view A6.R h3, A6.p.view A6.R h4, hk2, fro_now g7 A6.e A6.R (.bl k2)⟩
      · exact g6.elim
  · exact g3.elim
theorem pe_chnV (hu : X.A.units + 70 < cLine) {op op' : Cop} {o o' : CmpOp} (ho : o = copOf op) (ho' : o' = copOf op') (hm : lastMarks [o, o'] [b, c] = false) (ha : PE X a (tE X cls exc W G C xa)) (hb : PE X b (tE X cls exc W G C xb)) (hc : PE X c (tE X cls exc W G C xc)) :
    PE X (.Compare a [o, o'] [b, c] pos) (tE X cls exc W G C (.chn op op' xa xb xc)) := by
  subst ho ho'
  exact (pe_chain (op_cmp (cls := cls) (exc := exc) hu op) (op_cmp (cls := cls) (exc := exc) hu op') ha hb hc hm).cons conv_chn
theorem pt_chnV (hu : X.A.units + 70 < cLine) {op op' : Cop} {o o' : CmpOp} (ho : o = copOf op) (ho' : o' = copOf op') (hm : lastMarks [o, o'] [b, c] = false) (ha : PE X a (tE X cls exc W G C xa)) (hb : PE X b (tE X cls exc W G C xb)) (hc : PE X c (tE X cls exc W G C xc)) :
    PT X (.Compare a [o, o'] [b, c] pos) (tB (tE X cls exc W G C (.chn op op' xa xb xc))) := by
  subst ho ho'
  exact (pt_chain (op_cmp (cls := cls) (exc := exc) hu op) (op_cmp (cls := cls) (exc := exc) hu op') ha hb hc hm).cons fun σ H Q h => conv_chn σ H _ h
/-- a truth value -/
theorem isTrueV_bl (R : Rel Z r σ F H fp) {v : V} {fr : List Addr} {x : Vl} (h : VR Z r σ F H fp v fr x) {t : Bool} (g : isTrueV r x = some t) : v = .bl t := by
  unfold isTrueV at g
  split at g
  · rename_i t' h2
    cases g
    exact h.view R h2
  · cases g
theorem pe_conV {k : Bool} {op : BoolOp} {rest : List Expr} (ho : op = if k then .And else .Or) (ha : PE X a (tE X cls exc W G C xa)) (hb : PE X (.BoolOp op (b :: rest) pos) (tE X cls exc W G C xb)) : PE X (.BoolOp op (a :: b :: rest) pos) (tE X cls exc W G C (.con k xa xb)) := by
  cases k with
  | true =>
    subst ho
    refine (pe_and ha hb).cons fun σ H Q ⟨r, F, fp, R, g⟩ => ?_
    rw [evE] at g
    obtain ⟨r0, F0, fp0, R0, g0⟩ := step R (.refl ..) g
    refine ⟨r0, F0, fp0, R0, g0.mono fun x H1 ⟨va, r1, F1, fp1, f1, A1, g1⟩ => ?_⟩
    split at g1
    · rename_i t ht
      refine ⟨t, isTrueV_bl A1.R A1.p ht, ?_⟩
      cases t with
      | true => exact iteT ⟨r1, F1, fp1, A1.R, by
          rw [if_pos rfl] at g1
          cases hm : evE G C xb r1 with
          | ok y r' =>
            rw [hm] at g1
            exact fun v fr F' H' fp' e R' p f => g1 v fr F' H' fp' (A1.e.trans e) R' p fun c hc => A1.e.back (f c hc)
          | exc c fs r' =>
            rw [hm] at g1
            exact fun cl d F' H' fp' e R' x => g1 cl d F' H' fp' (A1.e.trans e) R' x
          | bad => rw [hm] at g1; exact g1⟩
      | false =>
        rw [if_neg (by decide)] at g1
        exact iteF (fro_now g1 A1.e A1.R (.bl false))
    · exact g1.elim
  | false =>
    subst ho
    refine (pe_or ha hb).cons fun σ H Q ⟨r, F, fp, R, g⟩ => ?_
    rw [evE] at g
    obtain ⟨r0, F0, fp0, R0, g0⟩ := step R (.refl ..) g
    refine ⟨r0, F0, fp0, R0, g0.mono fun x H1 ⟨va, r1, F1, fp1, f1, A1, g1⟩ => ?_⟩
    split at g1
    · rename_i t ht
      refine ⟨t, isTrueV_bl A1.R A1.p ht, ?_⟩
      cases t with
      | false => exact iteF ⟨r1, F1, fp1, A1.R, by
          rw [if_pos rfl] at g1
          cases hm : evE G C xb r1 with
          | ok y r' =>
            rw [hm] at g1
            exact fun v fr F' H' fp' e R' p f => g1 v fr F' H' fp' (A1.e.trans e) R' p fun c hc => A1.e.back (f c hc)
          | exc c fs r' =>
            rw [hm] at g1
            exact fun cl d F' H' fp' e R' x => g1 cl d F' H' fp' (A1.e.trans e) R' x
          | bad => rw [hm] at g1; exact g1⟩
      | true =>
        rw [if_neg (by decide)] at g1
        exact iteT (fro_now g1 A1.e A1.R (.bl true))
    · exact g1.elim
end
end VL
end
section
/-! V11: not, if-else, subscripts, slices, fields, displays. -/
namespace VL
open PySem PySem.Spec PyProof.Rows L2

section
variable {X : Cx} {cls : Clz} {exc : List (Addr × List Str)} {W : WX} {G : List Fd} {C : List D} {e a b c : Expr} {es : List Expr} {xa xb xc : Ex} {pos : Pos}
variable {Z : Zx} {r r' r2 : Fr} {σ : L2.St} {F F' F2 H H' H2 : Hp} {fp fp' fp2 : Nat → List Addr}
abbrev tA (X : Cx) (cls : Clz) (exc : List (Addr × List Str)) (W : WX) (G : List Fd) (C : List D) (x : Ar) : TA := tVA (zx X cls exc) W (evA G C x)
abbrev tTst (t : TE) : TT := tB t
theorem pe_notV (ha : PE X a (tE X cls exc W G C xa)) : PE X (.UnaryOp .Not a pos) (tE X cls exc W G C (.not xa)) := by
  refine (pe_not ha).cons fun σ H Q ⟨r, F, fp, R, g⟩ => ?_
  rw [evE] at g
  obtain ⟨r0, F0, fp0, R0, g0⟩ := step R (.refl ..) g
  refine ⟨r0, F0, fp0, R0, g0.mono fun x H1 ⟨va, r1, F1, fp1, f1, A1, g1⟩ => ?_⟩
  split at g1
  · rename_i t ht
    exact ⟨t, isTrueV_bl A1.R A1.p ht, fro_now g1 A1.e A1.R (.bl _)⟩
  · exact g1.elim
theorem pe_iteV (hc : PT X c (tB (tE X cls exc W G C xc))) (ha : PE X a (tE X cls exc W G C xa)) (hb : PE X b (tE X cls exc W G C xb)) : PE X (.IfExp c a b pos) (tE X cls exc W G C (.ite xc xa xb)) := by
  refine (pe_ifExp hc ha hb).cons fun σ H Q ⟨r, F, fp, R, g⟩ => ?_
  rw [evE] at g
  obtain ⟨r0, F0, fp0, R0, g0⟩ := step R (.refl ..) g
  refine ⟨r0, F0, fp0, R0, g0.mono fun x H1 ⟨va, r1, F1, fp1, f1, A1, g1⟩ => ?_⟩
  split at g1
  · rename_i ht
    exact ⟨true, isTrueV_bl A1.R A1.p ht, iteT ⟨r1, F1, fp1, A1.R, g1.shift (b1 := ⟨r1, fp1, F1, H1⟩) A1.e⟩⟩
  · rename_i ht
    exact ⟨false, isTrueV_bl A1.R A1.p ht, iteF ⟨r1, F1, fp1, A1.R, g1.shift (b1 := ⟨r1, fp1, F1, H1⟩) A1.e⟩⟩
  · exact g1.elim

/-! ### subscripts -/
theorem RepL.atI {ds : List D} {vs : List V} (h : RepL Z F ds vs) {i : Int} {d : D} (e : L2.atI ds i = some d) : ∃ v, L2.atI vs i = some v ∧ Rep Z F d v := by
  unfold L2.atI at e ⊢
  rw [← h.length]
  cases q : ixN ds.length i with
  | none => rw [q] at e; cases e
  | some j =>
    rw [q] at e
    exact h.get e
def rIdx (Z : Zx) : R2 := fun x y H Q => ∃ F dx dy d, Same F H ∧ View Z F H x dx ∧ View Z F H y dy ∧ idxD dx dy = some d ∧ ∀ v, Rep Z F d v → Q v H
theorem ix_all (hu : X.A.units + 70 < cLine) : IxR X (rIdx (zx X cls exc)) := by
  intro value slice pins s σ H x y v u Q I rx ry ⟨F, dx, dy, d, e, vx, vy, hd, q⟩ hs
  unfold idxD at hd
  split at hd
  · cases vy
    obtain ⟨a, xs, rfl, ha, hr⟩ := vx
    obtain ⟨z, h1, h2⟩ := hr.atI hd
    exact ix_list value slice pins s σ H _ _ v u Q I rx ry ⟨a, xs, _, z, rfl, rfl, .of ha, h1, q z h2⟩ hs
  · cases vy
    obtain ⟨a, xs, rfl, ha, hr⟩ := View.tupE vx e
    obtain ⟨z, h1, h2⟩ := hr.atI hd
    exact ix_tup value slice pins s σ H _ _ v u Q I rx ry ⟨a, xs, _, z, rfl, rfl, ha, h1, q z h2⟩ hs
  · split at hd
    · rename_i hz
      cases vy
      cases vx
      obtain ⟨c, h1, h2⟩ := Option.map_eq_some_iff.mp hd
      subst h2
      exact ix_str value slice pins s σ H _ _ v u Q I rx ry ⟨_, _, c, rfl, rfl, by rw [← lim_line]; exact hz, h1, q _ (.str _)⟩ hs
    · cases hd
  · split at hd
    · rename_i kvs n hn
      split at hd
      · rename_i ho
        obtain ⟨dd, o, es, ep, rfl, hdc, re, nd, hz⟩ := vx
        cases rx
        have get : ∀ {val : Value}, wpAny (model X.prog X.w) X.A (getItem (.ref dd) u) (EP X pins σ Q) X.xe s → s.TypeIs (.ref dd) "dict" → wpAny (model X.prog X.w) X.A (subscriptTail value slice (.ref dd) u) (EP X pins σ Q) X.xe s := fun {val} hg hT => by
          unfold subscriptTail
          refine wpAny_bind ?_
          rw [getitemInPython_of_ne hT.not_modules]
          refine wpAny_bind (wpAny_specialOf hT PySem.F.slot_dict_getitem.lookup ?_)
          have fin : wpAny (model X.prog X.w) X.A (subscripted slice false (.ref dd) u) (fun r s₃ => wpAny (model X.prog X.w) X.A (letTemporaryGo value (.ref dd) r >>= fun _ => pure r) (EP X pins σ Q) X.xe s₃) X.xe s := by
            rw [hs]
            exact wpAny_operating (wpAny_mono hg (fun r s₃ h₃ => wpAny_bind (wpAny_letTemporaryGo (wpAny_pure h₃))) fun _ _ x => x)
          first
            | exact wpAny_pure (wpAny_bind fin)
            | exact wpAny_bind (wpAny_pure (wpAny_bind fin))
            | exact wpAny_bind fin
        cases ht : isTup dy with
        | true =>
          obtain ⟨xs, px, hm⟩ := dct_h I hdc re e nd (oneMake_t ho ht)
          cases dy with
          | tup ds =>
            obtain ⟨k1, k2⟩ := keyOk_tup hn
            obtain ⟨b, vs, rfl, hb, hr⟩ := View.tupE vy e
            cases ry
            have hkey : (nestedKind X.prog X.w).is s.heap n b := ⟨Rep.nested (cls := cls) (exc := exc) I (View.rep vy e rfl) rfl k1, k2⟩
            have hroom : (nestedKind X.prog X.w).room X.A.in1 := by show X.A.units + 1 + 8 < cLine; omega
            rcases px.look (n := n) with ⟨e1, e2⟩ | ⟨w, vv, p, e1, e2, e3, e4⟩
            · rw [e1] at hd; cases hd
            · rw [e1] at hd; cases hd
              exact get (val := .none) (wpAny_getItem_heap (knd := nestedKind X.prog X.w) hroom hkey hm e2 ⟨vv, H, I.tok _, e3, q vv e4⟩) hm.typeIs
          | _ => cases ht
        | false =>
          obtain ⟨xs, px, hm⟩ := dct_k I hdc re nd (oneMake_f ho ht)
          obtain ⟨k, rfl, rfl⟩ := keyOk_leaf hn ht
          have hkey : (mixKind X.prog X.w).is k u = true := by
            cases k with
            | inl i => cases vy; obtain ⟨t, rfl⟩ := ry; exact keyIs_int i t
            | inr z => cases vy; obtain ⟨t, rfl⟩ := ry; exact keyIs_str z t
          rcases px.look (q := k) with ⟨e1, e2⟩ | ⟨w, vv, p, e1, e2, e3, e4⟩
          · rw [e1] at hd; cases hd
          · rw [e1] at hd; cases hd
            exact get (val := .none) (wpAny_getItem_of hkey hm.mapOf e2 ⟨vv, H, I.tok _, e3, q vv e4⟩) hm.typeIs
      · cases hd
    · cases hd
  · cases hd
theorem pe_idxV (hu : X.A.units + 70 < cLine) (hs : PlainIx b) (ha : PE X a (tE X cls exc W G C xa)) (hb : PE X b (tE X cls exc W G C xb)) : PE X (.Subscript a b pos) (tE X cls exc W G C (.idx xa xb)) := by
  refine (pe_ix (ix_all (cls := cls) (exc := exc) hu) ha hb hs).cons fun σ H Q ⟨r, F, fp, R, g⟩ => ?_
  rw [evE] at g
  obtain ⟨r0, F0, fp0, R0, g0⟩ := step R (.refl ..) g
  refine ⟨r0, F0, fp0, R0, g0.mono fun x H1 ⟨va, r1, F1, fp1, f1, A1, g1⟩ => ?_⟩
  obtain ⟨r2, F2, fp2, R2, g2⟩ := step A1.R A1.e g1
  refine ⟨r2, F2, fp2, R2, g2.mono fun y H2 ⟨vb, r3, F3, fp3, f3, A3, g3⟩ => ?_⟩
  have pa := A1.p.ext A3.e1
  split at g3
  · rename_i dx dy h1 h2
    obtain ⟨d, hd, g4⟩ := g3.orBad
    exact ⟨F3, dx, dy, d, A3.R.same, pa.view A3.R h1, A3.p.view A3.R h2, hd, fun v hv => fro_now g4 A3.e A3.R hv⟩
  · exact g3.elim
theorem RepL.cut {ds : List D} {vs : List V} (h : RepL Z F ds vs) (lo hi : Option Int) : RepL Z F (cutG ds lo hi) (cutV vs lo hi) := by
  unfold cutG cutV
  rw [h.length]
  exact (h.drop _).take _
def rSlc (Z : Zx) : V → Option Int → Option Int → Hp → VK → Prop := fun x lo hi H Q => ∃ F dx res, Same F H ∧ View Z F H x dx ∧ slcD lo hi dx = some res ∧ ResV Z F H Q res
theorem cut_all {n : Nat} {lo hi : Option Int} {α : Type} {xs : List α} (hn : xs.length = n) (h : HT.sIx n 0 lo = 0 ∧ HT.sIx n n hi = n) : cutG xs lo hi = xs := by
  unfold cutG
  rw [hn, h.1, h.2, List.drop_zero, ← hn]
  exact List.take_of_length_le (by omega)
theorem sl_all : SlR X (rSlc (zx X cls exc)) := by
  intro pins s σ H x v vl vu lo hi sl Q I rx hs pl pu ⟨F, dx, res, e, vx, hd, q⟩
  unfold slcD at hd
  split at hd
  · cases hd
    obtain ⟨a, xs, rfl, ha, hr⟩ := vx
    refine sl_list pins s σ H _ v vl vu lo hi sl Q I rx hs pl pu ⟨a, xs, rfl, .of ha, fun p hp => q.lst e hp ?_ (hr.cut lo hi)⟩
    have h1 := cutV_length xs lo hi
    have h2 : xs.length ≤ sizeLine := (I.hok a _ ha).1
    omega
  · cases hd
    obtain ⟨a, xs, rfl, ha, hr⟩ := View.tupE vx e
    refine sl_tupN pins s σ H _ v vl vu lo hi sl Q I rx hs pl pu ⟨a, xs, rfl, ha, fun h => ?_, fun h => q.tup e (hr.cut lo hi)⟩
    rw [cut_all hr.length h] at q
    exact q.now e vx
  · split at hd
    · rename_i hz
      cases hd
      cases vx
      exact sl_str pins s σ H _ v vl vu lo hi sl Q I rx hs pl pu ⟨_, rfl, by rw [← lim_line]; exact hz, q.str e⟩
    · cases hd
  · cases hd
end
end VL
end
section
/-! V12: slices, fields, argument lists, displays. -/
namespace VL
open PySem PySem.Spec PyProof.Rows L2

section
variable {X : Cx} {cls : Clz} {exc : List (Addr × List Str)} {W : WX} {G : List Fd} {C : List D} {e a b c : Expr} {es : List Expr} {xa xb xc : Ex} {pos : Pos}
variable {Z : Zx} {r r' r2 : Fr} {σ : L2.St} {F F' F2 H H' H2 : Hp} {fp fp' fp2 : Nat → List Addr}
abbrev POi : PrG (Option Int) (Option Int) := fun _ _ _ _ y fr x => fr = [] ∧ y = x
def tO (X : Cx) (cls : Clz) (exc : List (Addr × List Str)) (W : WX) (G : List Fd) (C : List D) (x : Oe) : TO := fun σ H Q => ∃ r F fp, Rel (zx X cls exc) r σ F H fp ∧ GdG (zx X cls exc) σ POi ⟨r, fp, F, H⟩ W Q (evO G C x r)
theorem _root_.L2.PO.cons {e : Option Expr} {t t' : TO} (h : PO X e t) (c : ∀ σ H Q, t' σ H Q → t σ H Q) : PO X e t' := ⟨fun pins s σ H Q I q => h.run pins s σ H Q I (c σ H Q q)⟩
theorem po_noV : PO X none (tO X cls exc W G C .no) := po_none.cons fun σ H Q ⟨r, F, fp, R, g⟩ => g none [] F H fp (.refl ..) R ⟨rfl, rfl⟩ fun _ z => nomatch z
theorem po_soV (ha : PE X a (tE X cls exc W G C xa)) : PO X (some a) (tO X cls exc W G C (.so xa)) := by
  refine (po_some ha).cons fun σ H Q ⟨r, F, fp, R, g⟩ => ?_
  rw [evO] at g
  obtain ⟨r0, F0, fp0, R0, g0⟩ := step R (.refl ..) g
  refine ⟨r0, F0, fp0, R0, g0.mono fun x H1 ⟨va, r1, F1, fp1, f1, A1, g1⟩ => ?_⟩
  split at g1
  · rename_i i h
    exact ⟨i, A1.p.view A1.R h, g1 (some i) [] F1 H1 fp1 A1.e A1.R ⟨rfl, rfl⟩ fun _ z => nomatch z⟩
  · exact g1.elim
theorem pe_slcV {lo hi : Option Expr} {xl xh : Oe} {p2 : Pos} (ha : PE X a (tE X cls exc W G C xa)) (hl : PO X lo (tO X cls exc W G C xl)) (hh : PO X hi (tO X cls exc W G C xh)) :
    PE X (.Subscript a (.Slice lo hi none p2) pos) (tE X cls exc W G C (.slc xa xl xh)) := by
  refine (pe_slice (sl_all (cls := cls) (exc := exc)) ha hl hh).cons fun σ H Q ⟨r, F, fp, R, g⟩ => ?_
  rw [evE] at g
  obtain ⟨r0, F0, fp0, R0, g0⟩ := step R (.refl ..) g
  refine ⟨r0, F0, fp0, R0, g0.mono fun x H1 ⟨va, r1, F1, fp1, f1, A1, g1⟩ => ?_⟩
  refine ⟨r1, F1, fp1, A1.R, (GdG.bnd (b1 := ⟨r1, fp1, F1, H1⟩) g1 A1.e).mono fun l H2 ⟨vl, r2, F2, fp2, f2, A2, g2⟩ => ?_⟩
  obtain ⟨q1, q2⟩ := A2.p
  subst q2
  refine ⟨r2, F2, fp2, A2.R, (GdG.bnd (b1 := ⟨r2, fp2, F2, H2⟩) g2 A2.e).mono fun u H3 ⟨vh, r3, F3, fp3, f3, A3, g3⟩ => ?_⟩
  obtain ⟨q3, q4⟩ := A3.p
  subst q4
  have pa := (A1.p.ext A2.e1).ext A3.e1
  split at g3
  · rename_i dx h1
    obtain ⟨res, hres, g4⟩ := g3.orBad
    exact ⟨F3, dx, res, A3.R.same, pa.view A3.R h1, hres, .of A3.R A3.e (fun i z => by
      subst z
      unfold slcD at hres
      split at hres <;> first | (split at hres <;> cases hres) | cases hres) g4⟩
  · exact g3.elim

/-! ### fields -/
structure ClsOk (K : PySem.W.Frag) (ci : Zc) : Prop where
  pl : ci.slotted = false → Cls K ci.C ∧ ∀ f ∈ ci.names, NoAttr K ci.C f
  sl : ci.slotted = true → SlX.SCls K ci.C ∧ ∀ (k : Nat) (f : Str), ci.names[k]? = some f → ∃ p, SlX.Slot1 K ci.C f p (ci.ix.getD k 0)
  nd : ci.names.Nodup
  inj : ci.slotted = true → ∀ i j, i < ci.names.length → j < ci.names.length → ci.ix.getD i 0 = ci.ix.getD j 0 → i = j
  few : ci.names.length < 100
theorem zip_lookup {f : Str} : ∀ {ns : List Str} {vs : List V} {k : Nat} {v : V}, ns.Nodup → ns[k]? = some f → vs[k]? = some v → (ns.zip vs).lookup f = some v
  | [], _, _, _, _, h, _ => by simp at h
  | _ :: _, [], _, _, _, _, h => by simp at h
  | n :: ns, w :: vs, 0, v, nd, h1, h2 => by
    simp only [List.getElem?_cons_zero, Option.some.injEq] at h1 h2
    subst h1 h2
    show List.lookup n ((n, w) :: ns.zip vs) = some w
    simp [List.lookup]
  | n :: ns, w :: vs, k + 1, v, nd, h1, h2 => by
    rw [List.nodup_cons] at nd
    have h1' : ns[k]? = some f := by simpa using h1
    have hne : (f == n) = false := beq_eq_false_iff_ne.mpr fun z => nd.1 (z ▸ List.mem_of_getElem? h1')
    show List.lookup f ((n, w) :: ns.zip vs) = some v
    unfold List.lookup
    rw [hne]
    exact zip_lookup nd.2 h1' (by simpa using h2)
theorem fld_get {ci : Zc} {f : Str} {pins : List (Addr × Obj)} {s : Shared} {c k : Nat} {x : V} {u : Value} {fs : List D} {d : D} {bb : Bool} {Q : VK} {A : Around} {E : Value → Shared → Prop} (hc : cls.l[c]? = some ci) (ok : ClsOk X.K ci) (hf : ci.names[k]? = some f) (I : Inv X pins σ H s) (rx : RelV x u)
    (vx : View (zx X cls exc) F H x (.obj c fs)) (hd : fs[k]? = some d) (q : ∀ v, Rep (zx X cls exc) F d v → Q v H) : wpAny (model X.prog X.w) A (getAttr u f bb) (EP X pins σ Q) E s := by
  obtain ⟨p, dx, vs, rfl, ho, hr⟩ := vx
  cases rx
  obtain ⟨v, hv, rv⟩ := hr.get hd
  obtain ⟨ci', h1, h2, h3, h4⟩ := ho
  have h1' : cls.l[c]? = some ci' := h1
  rw [hc] at h1'
  cases h1'
  split at h4
  · rename_i hs
    obtain ⟨k1, k2⟩ := ok.sl hs
    obtain ⟨pp, t⟩ := k2 k f hf
    obtain ⟨ws, h4, h5⟩ := h4
    exact SlX.getslot_ok I h4 k1 t (h5 k v hv) fun u' s' I' ru => ⟨v, H, I', ru, q v rv⟩
  · rename_i hs
    obtain ⟨k1, k2⟩ := ok.pl (by simpa using hs)
    exact getattr_ok I h4.1 k1 (k2 f (List.mem_of_getElem? hf)) (zip_lookup ok.nd hf hv) fun u' s' I' ru => ⟨v, H, I', ru, q v rv⟩
theorem pe_fldV {ci : Zc} {f : Str} {c k : Nat} (hc : cls.l[c]? = some ci) (ok : ClsOk X.K ci) (hf : ci.names[k]? = some f) (hb : attributeBase a f X.env (eval a X.env) = eval a X.env) (ha : PE X a (tE X cls exc W G C xa)) :
    PE X (.Attribute a f pos) (tE X cls exc W G C (.fld c k xa)) := by
  refine ⟨fun pins s σ H Q I ⟨r, F, fp, R, g⟩ => ?_⟩
  rw [evE] at g
  refine attr_of hb (thn (ha.run pins s σ H _ I (step R (.refl ..) g)) fun u s1 ⟨x, H1, I1, rx, va, r1, F1, fp1, f1, A1, g1⟩ => ?_)
  split at g1
  · rename_i d fs h1
    split at g1
    · rename_i e1
      subst e1
      obtain ⟨d', hd, g2⟩ := g1.orBad
      exact fld_get hc ok hf I1 rx (A1.p.view A1.R h1) hd fun v rv => fro_now g2 A1.e A1.R rv
    · exact g1.elim
  · exact g1.elim

/-! ### argument lists -/
theorem starEach_plain {env : Env} (h : ∀ x p, e ≠ .Starred x p) : starEach (e :: es) env = (false, eval e env) :: starEach es env := by
  cases e <;> first | rfl | exact absurd rfl (h _ _)
theorem pa_nilV : PA X [] (tA X cls exc W G C .nil) := pa_nil.cons fun σ H Q ⟨r, F, fp, R, g⟩ => by
  rw [evA] at g
  exact g [] [] F H fp (.refl ..) R rfl fun _ z => nomatch z
theorem VRL.cons_aft {b b1 : Bs} {x : V} {xs : List V} {va : Vl} {vs : List Vl} {r1 : Fr} {H1 : Hp} {F1 : Hp} {fp1 : Nat → List Addr} {f1 f2 : List Addr} (A1 : Aft (Z := Z) (σ := σ) (PVl Z σ) b b1 x H1 va r1 F1 fp1 f1)
    (A2 : Aft (Z := Z) (σ := σ) (PVls Z σ) b ⟨r1, fp1, F1, H1⟩ xs H2 vs r2 F2 fp2 f2) (e : Ext b.r b.fp b.F b.H b1.r b1.fp b1.F b1.H) :
    VRL Z r2 σ F2 H2 fp2 (x :: xs) (f1 ++ f2) (va :: vs) ∧ ∀ a ∈ f1 ++ f2, b.H a = none ∨ OwnS b.r b.fp a := by
  refine ⟨⟨f1, f2, rfl, A1.p.ext A2.e1, A2.p, fun c h1 h2 => ?_⟩, fun c hc => ?_⟩
  · obtain ⟨q1, q2, o, q3⟩ := A1.p.fresh c h1
    rcases A2.f1 c h2 with z | z
    · have z' : H1 c = none := z
      rw [q3] at z'; cases z'
    · exact q2 z
  · rcases List.mem_append.mp hc with hc | hc
    · exact A1.f e c hc
    · exact A2.f A1.e c hc
theorem pa_consV {xs : Ar} (h : ∀ x p, e ≠ .Starred x p) (ha : PE X e (tE X cls exc W G C xa)) (hr : PA X es (tA X cls exc W G C xs)) : PA X (e :: es) (tA X cls exc W G C (.cons xa xs)) := by
  refine (pa_cons ha hr (starEach_plain h)).cons fun σ H Q ⟨r, F, fp, R, g⟩ => ?_
  rw [evA] at g
  obtain ⟨r0, F0, fp0, R0, g0⟩ := step R (.refl ..) g
  refine ⟨r0, F0, fp0, R0, g0.mono fun x H1 ⟨va, r1, F1, fp1, f1, A1, g1⟩ => ?_⟩
  obtain ⟨r2, F2, fp2, R2, g2⟩ := stepA A1.R A1.e g1
  refine ⟨r2, F2, fp2, R2, g2.mono fun ys H2 ⟨vs, r3, F3, fp3, f3, A3, g3⟩ => ?_⟩
  obtain ⟨p1, p2⟩ := VRL.cons_aft A1 A3 (.refl ..)
  exact g3 (x :: ys) (f1 ++ f3) F3 H2 fp3 A3.e A3.R p1 p2
theorem VRL.fros {ds : List D} : ∀ {xs : List V}, RepL Z F ds xs → VRL Z r σ F H fp xs [] (ds.map Vl.fro) := fun {xs} h => by
  induction ds generalizing xs with
  | nil => cases h; rfl
  | cons d ds ih =>
    cases h with
    | cons h1 h2 => exact ⟨[], [], rfl, ⟨rfl, h1⟩, ih h2, fun _ z => nomatch z⟩
theorem VRL.append : ∀ {xs ys : List V} {vs ws : List Vl} {f1 f2 : List Addr}, VRL Z r σ F H fp xs f1 vs → VRL Z r σ F H fp ys f2 ws → (∀ a ∈ f1, a ∉ f2) → VRL Z r σ F H fp (xs ++ ys) (f1 ++ f2) (vs ++ ws)
  | [], ys, [], ws, f1, f2, h, k, _ => by
    have h' : f1 = [] := h
    subst h'
    exact k
  | x :: xs, ys, v :: vs, ws, f1, f2, ⟨g1, g2, e1, h1, h2, h3⟩, k, hd => by
    subst e1
    refine ⟨g1, g2 ++ f2, by rw [List.append_assoc], h1, h2.append k fun a ha => hd a (List.mem_append_right _ ha), fun a ha z => ?_⟩
    rcases List.mem_append.mp z with z | z
    · exact h3 a ha z
    · exact hd a (List.mem_append_left _ ha) z
  | [], _, _ :: _, _, _, _, h, _, _ => h.elim
  | _ :: _, _, [], _, _, _, h, _, _ => h.elim
theorem seqView {d : D} {ds : List D} {v : V} (hs : seqOf d = some ds) (h : View Z F H v d) (e : Same F H) : ∃ p xs, v = .ref p ∧ (SqT Z.K H p xs ∨ SqL Z.K H p xs) ∧ RepL Z F ds xs := by
  unfold seqOf at hs
  split at hs
  · cases hs
    obtain ⟨p, xs, rfl, h1, h2⟩ := h
    exact ⟨p, xs, rfl, .inr (.of h1), h2⟩
  · cases hs
    obtain ⟨p, xs, rfl, h1, h2⟩ := View.tupE h e
    exact ⟨p, xs, rfl, .inl h1, h2⟩
  · cases hs
theorem pa_starV {xs : Ar} {p : Pos} (ha : PE X e (tE X cls exc W G C xa)) (hr : PA X es (tA X cls exc W G C xs)) : PA X (.Starred e p :: es) (tA X cls exc W G C (.star xa xs)) := by
  refine (StX.pa_star ha hr).cons fun σ H Q ⟨r, F, fp, R, g⟩ => ?_
  rw [evA] at g
  obtain ⟨r0, F0, fp0, R0, g0⟩ := step R (.refl ..) g
  refine ⟨r0, F0, fp0, R0, g0.mono fun x H1 ⟨va, r1, F1, fp1, f1, A1, g1⟩ => ?_⟩
  split at g1
  · rename_i ds hds
    obtain ⟨d, h1, h2⟩ := Option.bind_eq_some_iff.mp hds
    obtain ⟨pp, zs, rfl, hz, rz⟩ := seqView h2 (A1.p.view A1.R h1) A1.R.same
    refine ⟨pp, zs, rfl, hz, ?_⟩
    obtain ⟨r2, F2, fp2, R2, g2⟩ := stepA A1.R A1.e g1
    refine ⟨r2, F2, fp2, R2, g2.mono fun ys H2 ⟨vs, r3, F3, fp3, f3, A3, g3⟩ => ?_⟩
    exact g3 (zs ++ ys) ([] ++ f3) F3 H2 fp3 A3.e A3.R ((VRL.fros (rz.mono A3.e1.sF)).append A3.p fun _ z => nomatch z) (A3.f A1.e)
  · exact g1.elim
/-- values taken as parts -/
theorem take_vals {b b1 : Bs} {xs : List V} {vs : List Vl} {r1 : Fr} {fr : List Addr} {ds : List D} (A1 : Aft (Z := Z) (σ := σ) (PVls Z σ) b b1 xs H vs r1 F fp fr) (e : Ext b.r b.fp b.F b.H b1.r b1.fp b1.F b1.H) (t : takeL vs r1 = some (ds, r')) :
    ∃ F', Rel Z r' σ F' H fp ∧ RepL Z F' ds xs ∧ Ext b.r b.fp b.F b.H r' fp F' H ∧ Same F F' ∧ Grew r1 fp fr F r' F' := by
  obtain ⟨F', fpc, L⟩ := lendL_ok [] A1.R A1.p t
  refine ⟨F', L.rel, ?_, L.grw.ext (fun a ha => (A1.f e a ha).symm) A1.e, L.grw.sF, L.grw⟩
  have all : ∀ {ds : List D} {xs : List V} {fpc : Nat → List Addr}, ds.length = xs.length → Rel Z.un (entryF [] ds) (xs.map some) F' H fpc → RepL Z.un F' ds xs := by
    intro ds
    induction ds with
    | nil => intro xs fpc hl R; cases xs with | nil => exact .nil | cons _ _ => cases hl
    | cons d ds ih =>
      intro xs fpc hl R
      cases xs with
      | nil => cases hl
      | cons x xs =>
        obtain ⟨v, h1, h2⟩ := R.fro 0 d (by simp [entryF])
        have h1' : v = x := by simpa using h1.symm
        subst h1'
        refine .cons h2 (ih (fpc := fun k => fpc (k + 1)) (by simpa using hl) ⟨.un, R.same, by have := R.len; simpa [entryF] using this, fun i d h => ?_, fun i d h => ?_, fun i j d e hij h k => ?_⟩)
        · obtain ⟨v, q1, q2⟩ := R.fro (i + 1) d (by simpa [entryF] using h)
          exact ⟨v, by simpa using q1, q2⟩
        · obtain ⟨v, q1, q2⟩ := R.own (i + 1) d (by simpa [entryF] using h)
          exact ⟨v, by simpa using q1, q2⟩
        · exact R.dis (i + 1) (j + 1) d e (by omega) (by simpa [entryF] using h) (by simpa [entryF] using k)
  exact RepL.re (Z := Z.un) (ps := Z.cls.pins) (all L.dln L.arg)
theorem pe_tupV {xs : Ar} {k : Nat} (h : PA X es (tA X cls exc W G C xs)) : PE X (.Tuple es k pos) (tE X cls exc W G C (.tup xs)) := by
  refine (pe_tupN h).cons fun σ H Q ⟨r, F, fp, R, g⟩ => ?_
  rw [evE] at g
  obtain ⟨r0, F0, fp0, R0, g0⟩ := stepA R (.refl ..) g
  refine ⟨r0, F0, fp0, R0, g0.mono fun ys H1 ⟨vs, r1, F1, fp1, f1, A1, g1⟩ => ?_⟩
  obtain ⟨⟨ds, r2⟩, ht, g2⟩ := g1.orBad
  split at g2
  · rename_i hl
    obtain ⟨F2, R2, p2, e2, s2⟩ := take_vals A1 (.refl ..) ht
    exact ⟨by rw [← p2.length, ← lim_line]; exact hl, (ResV.of R2 e2 (fun i z => by cases z) g2).tup R2.same p2⟩
  · exact g2.elim
theorem pe_lstV {xs : Ar} (h : PA X es (tA X cls exc W G C xs)) : PE X (.List es pos) (tE X cls exc W G C (.lst xs)) := by
  refine (pe_lst h).cons fun σ H Q ⟨r, F, fp, R, g⟩ => ?_
  rw [evE] at g
  obtain ⟨r0, F0, fp0, R0, g0⟩ := stepA R (.refl ..) g
  refine ⟨r0, F0, fp0, R0, g0.mono fun ys H1 ⟨vs, r1, F1, fp1, f1, A1, g1⟩ => ?_⟩
  obtain ⟨⟨ds, r2⟩, ht, g2⟩ := g1.orBad
  split at g2
  · rename_i hl
    obtain ⟨F2, R2, p2, e2, s2⟩ := take_vals A1 (.refl ..) ht
    have hz : ys.length ≤ sizeLine := by rw [← p2.length, ← lim_line]; exact hl
    exact ⟨hz, fun p hp => (ResV.of R2 e2 (fun i z => by cases z) g2).lst R2.same hp hz p2⟩
  · exact g2.elim
/-- an older value stays apart from what is taken -/
theorem keep_old {r1 : Fr} {F1 H1 : Hp} {fp1 : Nat → List Addr} {x : V} {f1 : List Addr} {va : Vl} {b : Bs} {xs : List V} {vs : List Vl} {r3 : Fr} {f3 : List Addr} (p : VR Z r1 σ F1 H1 fp1 x f1 va) (A3 : Aft (Z := Z) (σ := σ) (PVls Z σ) b ⟨r1, fp1, F1, H1⟩ xs H vs r3 F fp f3) (g : Grew r3 fp f3 F r' F') : VR Z r' σ F' H fp x f1 va := by
  refine (p.ext A3.e1).grew g fun a ha hb => ?_
  obtain ⟨_, h2, o, h3⟩ := p.fresh a hb
  rcases A3.f1 a ha with z | z
  · rw [show H1 a = none from z] at h3; cases h3
  · exact h2 z
end
end VL
end
section
/-! V13: built-ins on data. -/
namespace VL
open PySem PySem.Spec PyProof.Rows L2

section
variable {X : Cx} {cls : Clz} {exc : List (Addr × List Str)} {W : WX} {G : List Fd} {C : List D} {e a b c : Expr} {es : List Expr} {xa xb xc : Ex} {pos : Pos}
variable {Z : Zx} {r r' r2 : Fr} {σ : L2.St} {F F' F2 H H' H2 : Hp} {fp fp' fp2 : Nat → List Addr} {s : Shared} {pins : List (Addr × Obj)}
inductive ViewL (Z : Zx) (F H : Hp) : List V → List D → Prop
  | nil : ViewL Z F H [] []
  | cons {v : V} {d : D} {vs : List V} {ds : List D} : View Z F H v d → ViewL Z F H vs ds → ViewL Z F H (v :: vs) (d :: ds)
def rBlt (Z : Zx) (f : List D → Option Vl) : List V → Hp → VK → Prop := fun xs H Q => ∃ F ds res, Same F H ∧ ViewL Z F H xs ds ∧ f ds = some res ∧ ResV Z F H Q res
theorem ViewL.one {xs : List V} {d : D} (h : ViewL Z F H xs [d]) : ∃ v, xs = [v] ∧ View Z F H v d := by
  cases h with
  | cons h1 h2 => cases h2; exact ⟨_, rfl, h1⟩
theorem ViewL.two {xs : List V} {d e : D} (h : ViewL Z F H xs [d, e]) : ∃ v w, xs = [v, w] ∧ View Z F H v d ∧ View Z F H w e := by
  cases h with
  | cons h1 h2 =>
    obtain ⟨w, rfl, h3⟩ := h2.one
    exact ⟨_, _, rfl, h1, h3⟩
def fBlt (b : Blt) : Value := match b with
  | .len => .builtin "len"
  | .tuple => .type "tuple"
  | .list => .type "list"
  | .sorted => .builtin "sorted"
  | .min1 => .builtin "min"
  | .max1 => .builtin "max"
  | .max2 => .builtin "max"
  | .all => .builtin "all"
  | .int => .type "int"
  | .str => .type "str"
  | .abs => .builtin "abs"
  | _ => .none
theorem bl_all {a : Addr} {ds : List D} : ∀ {xs : List V} {k : Bool}, RepL Z F ds xs → allD ds = some k → ∃ bs : List Bool, xs = bs.map V.bl ∧ bs.all id = k := by
  induction ds with
  | nil => intro xs k h e; cases h; cases e; exact ⟨[], rfl, rfl⟩
  | cons d ds ih =>
    intro xs k h e
    cases h with
    | cons h1 h2 =>
      cases d with
      | bl b =>
        cases h1
        obtain ⟨k', e1, e2⟩ := Option.map_eq_some_iff.mp e
        obtain ⟨bs, rfl, e3⟩ := ih h2 e1
        exact ⟨b :: bs, rfl, by rw [← e2, ← e3]; rfl⟩
      | _ => cases e
theorem RepE.keys : ∀ {kvs : List (D × D)} {es : List DictEntry}, RepE Z F kvs es → ∃ ks, RepL Z F (kvs.map (·.1)) ks ∧ Vals ks (es.map (·.key))
  | _, _, .nil => ⟨[], .nil, .nil⟩
  | _, _, .cons h1 h3 h4 h5 h6 h7 r => by
    obtain ⟨ks, a1, a2⟩ := r.keys
    exact ⟨_ :: ks, .cons h5 a1, .cons h4 a2⟩
theorem keys_acc {es : Array DictEntry} {acc : Array Value} (h : PySem.ItemsOf (fun i v => ∃ hi : i < es.size, v = es[i].key) acc es.size) : acc.toList = es.toList.map (·.key) := by
  apply List.ext_getElem?
  intro i
  rw [List.getElem?_map, Array.getElem?_toList, Array.getElem?_toList]
  cases e : acc[i]? with
  | some v =>
    obtain ⟨hi, e2⟩ := h.2 i v e
    rw [Array.getElem?_eq_getElem hi, e2]
    rfl
  | none =>
    have h1 : acc.size ≤ i := Array.getElem?_eq_none_iff.mp e
    rw [h.1] at h1
    rw [Array.getElem?_eq_none_iff.mpr h1]
    rfl
theorem call_lenV : CallR X (.builtin "len") (rBlt (zx X cls exc) (bltD .len)) := by
  intro pins s σ H xs us Q I r ⟨F, ds, res, e, vs, hd, q⟩
  unfold bltD at hd
  split at hd <;> first | contradiction | skip
  · split at hd
    · rename_i hz
      cases hd
      obtain ⟨v, rfl, hv⟩ := vs.one
      cases hv
      exact call_len pins s σ H _ us Q I r ⟨_, _, rfl, ⟨by rw [← lim_line]; exact hz, rfl⟩, q.int e⟩
    · cases hd
  · cases hd
    obtain ⟨v, rfl, hv⟩ := vs.one
    obtain ⟨p, zs, rfl, h1, h2⟩ := hv
    exact call_len pins s σ H _ us Q I r ⟨_, _, rfl, .inl ⟨zs, .of h1, rfl⟩, by rw [← h2.length]; exact q.int e⟩
  · cases hd
    obtain ⟨v, rfl, hv⟩ := vs.one
    obtain ⟨p, zs, rfl, h1, h2⟩ := View.tupE hv e
    exact call_len pins s σ H _ us Q I r ⟨_, _, rfl, .inr ⟨zs, h1, rfl⟩, by rw [← h2.length]; exact q.int e⟩
  · cases hd
    obtain ⟨v, rfl, hv⟩ := vs.one
    obtain ⟨d, o, es, ep, rfl, hdc, re, nd, hz⟩ := hv
    obtain ⟨u, rfl, rx⟩ := vals1 r
    cases rx
    have hm : s.heap.DictRaw d es ep := ⟨o, hdc.get I, hdc.ex, hdc.dat⟩
    have hl := re.length.symm
    rw [Array.length_toList] at hl
    refine PyProof.Rows.call_len_slot (n := es.size) hm.typeIs PySem.F.slot_dict_len (fun Q' hq => call_len_raw hdc.sys hm hq) (by omega) (by rw [hl]; rw [sizeLine_eq] at hz; omega) ?_
    refine ⟨.int es.size, H, I.tok _, ⟨_, rfl⟩, ?_⟩
    rw [hl]
    exact q.int e
theorem call_tupleV : CallR X (.type "tuple") (rBlt (zx X cls exc) (bltD .tuple)) := by
  intro pins s σ H xs us Q I r ⟨F, ds, res, e, vs, hd, q⟩
  unfold bltD at hd
  split at hd <;> first | contradiction | skip
  obtain ⟨zs, h1, h2⟩ := Option.map_eq_some_iff.mp hd
  subst h2
  obtain ⟨v, rfl, hv⟩ := vs.one
  unfold seqOf at h1
  split at h1
  · cases h1
    obtain ⟨p, ys, rfl, ha, hr⟩ := hv
    exact call_tupleN pins s σ H _ us Q I r ⟨p, ys, rfl, .inl ⟨.of ha, q.tup e hr⟩⟩
  · cases h1
    obtain ⟨p, ys, rfl, ha, hr⟩ := View.tupE hv e
    exact call_tupleN pins s σ H _ us Q I r ⟨p, ys, rfl, .inr ⟨ha, q.now e hv⟩⟩
  · cases h1
theorem call_listV (hc : X.calm = true) : CallR X (.type "list") (rBlt (zx X cls exc) (bltD .list)) := by
  intro pins s σ H xs us Q I r ⟨F, ds, res, e, vs, hd, q⟩
  unfold bltD at hd
  split at hd <;> first | contradiction | skip
  · cases hd
    obtain ⟨v, rfl, hv⟩ := vs.one
    obtain ⟨d, o, es, ep, rfl, hdc, re, nd, hz⟩ := hv
    obtain ⟨u, rfl, rx⟩ := vals1 r
    cases rx
    have hm : s.heap.DictRaw d es ep := ⟨o, hdc.get I, hdc.ex, hdc.dat⟩
    have hl := re.length.symm
    rw [Array.length_toList] at hl
    refine PySem.W.kdl_call (KdlSrc.rawDict (es := es) (ep := ep) hdc.sys) (I.ok.hd hc) hm (by rw [hl]; exact hz) fun h' tk acc' c' hk hn hi => ?_
    obtain ⟨ks, k1, k2⟩ := re.keys
    rw [← keys_acc hi] at k2
    have hsz : ks.length ≤ sizeLine := by rw [← k1.length, List.length_map]; exact hz
    have hp := I.hok.fresh (Nat.le_refl _)
    exact ⟨.ref s.heap.objs.size, upd H s.heap.objs.size (.lst ks), I.laid hk (Nat.le_refl _) ⟨hsz, acc'.toList, c', k2, by simpa using hn⟩, rfl, q.lst e hp hsz k1⟩
  · obtain ⟨zs, h1, h2⟩ := Option.map_eq_some_iff.mp hd
    subst h2
    obtain ⟨v, rfl, hv⟩ := vs.one
    obtain ⟨p, ys, rfl, ha, hr⟩ := seqView h1 hv e
    refine call_list_of pins s σ H _ us Q I r ⟨p, ys, rfl, ha.symm, fun l hl => q.lst e hl ?_ hr⟩
    rcases ha with ha | ha
    · obtain ⟨_, _, _, z⟩ := I.tuple ha
      exact z
    · obtain ⟨_, _, _, z⟩ := I.list ha
      exact z

theorem call_allV (hc : X.calm = true) : CallR X (.builtin "all") (rBlt (zx X cls exc) (bltD .all)) := by
  intro pins s σ H xs us Q I r ⟨F, ds, res, e, vs, hd, q⟩
  unfold bltD at hd
  split at hd <;> first | contradiction | skip
  obtain ⟨k, h1, h2⟩ := Option.map_eq_some_iff.mp hd
  subst h2
  obtain ⟨v, rfl, hv⟩ := vs.one
  obtain ⟨p, ys, rfl, ha, hr⟩ := hv
  obtain ⟨bs, rfl, e2⟩ := bl_all (a := p) hr h1
  exact cr_all hc pins s σ H _ us Q I r ⟨p, bs, rfl, .of ha, by rw [e2]; exact q.bl e⟩
theorem call_intV : CallR X (.type "int") (rBlt (zx X cls exc) (bltD .int)) := by
  intro pins s σ H xs us Q I r ⟨F, ds, res, e, vs, hd, q⟩
  unfold bltD at hd
  split at hd <;> first | contradiction | skip
  · cases hd
    obtain ⟨v, rfl, hv⟩ := vs.one
    cases hv
    exact call_int1 pins s σ H _ us Q I r (.inl ⟨_, rfl, q.int e⟩)
  · cases hd
    obtain ⟨v, rfl, hv⟩ := vs.one
    cases hv
    exact call_int1 pins s σ H _ us Q I r (.inr ⟨_, rfl, q.int e⟩)
  · split at hd
    · rename_i hz
      obtain ⟨n, h1, h2⟩ := Option.map_eq_some_iff.mp hd
      subst h2
      obtain ⟨v, rfl, hv⟩ := vs.one
      cases hv
      exact call_int_str pins s σ H _ us Q I r ⟨_, n, rfl, h1, hz, q.int e⟩
    · cases hd
theorem call_strV : CallR X (.type "str") (rBlt (zx X cls exc) (bltD .str)) := by
  intro pins s σ H xs us Q I r ⟨F, ds, res, e, vs, hd, q⟩
  unfold bltD at hd
  split at hd <;> first | contradiction | skip
  split at hd
  · rename_i hz
    cases hd
    obtain ⟨v, rfl, hv⟩ := vs.one
    cases hv
    exact call_str_int pins s σ H _ us Q I r ⟨_, rfl, hz, q.str e⟩
  · cases hd
theorem call_absV : CallR X (.builtin "abs") (rBlt (zx X cls exc) (bltD .abs)) := by
  intro pins s σ H xs us Q I r ⟨F, ds, res, e, vs, hd, q⟩
  unfold bltD at hd
  split at hd <;> first | contradiction | skip
  cases hd
  obtain ⟨v, rfl, hv⟩ := vs.one
  cases hv
  exact call_abs pins s σ H _ us Q I r ⟨_, rfl, q.int e⟩
theorem call_max2V (hc : X.calm = true) : CallR X (.builtin "max") (rBlt (zx X cls exc) (bltD .max2)) := by
  intro pins s σ H xs us Q I r ⟨F, ds, res, e, vs, hd, q⟩
  unfold bltD at hd
  split at hd <;> first | contradiction | skip
  cases hd
  obtain ⟨v, w, rfl, hv, hw⟩ := vs.two
  cases hv; cases hw
  exact call_max2 hc pins s σ H _ us Q I r ⟨_, _, rfl, q.int e⟩
/-! ### sorted -/
theorem each_of {R : Value → D → Prop} : ∀ {ds : List D} {xs : List V} {us : List Value}, RepL Z F ds xs → Vals xs us → (∀ d v u, Rep Z F d v → RelV v u → R u d) → PySem.W.EachIs R us ds
  | _, _, _, .nil, .nil, _ => .nil
  | _, _, _, .cons h1 h2, .cons r1 r2, f => .cons (f _ _ _ h1 r1) (each_of h2 r2 f)
theorem of_each : ∀ {ds : List D} {us : List Value}, PySem.W.EachIs (fun u d => ∃ v, RelV v u ∧ Rep Z F d v) us ds → ∃ xs, RepL Z F ds xs ∧ Vals xs us
  | _, _, .nil => ⟨[], .nil, .nil⟩
  | _, _, .cons ⟨v, h1, h2⟩ r => by
    obtain ⟨xs, k1, k2⟩ := of_each r
    exact ⟨v :: xs, .cons h2 k1, .cons h1 k2⟩
theorem leD_le : leD = PySem.W.dataLe false toP := by
  funext a b
  unfold leD ltD PySem.W.dataLe PySem.W.dataLt
  rfl
theorem alikeAll_of {xs : List D} (h : alikeAllD xs = true) : ∀ x ∈ xs, ∀ y ∈ xs, alikeD x y = true := fun x hx y hy => List.all_eq_true.mp (List.all_eq_true.mp h x hx) y hy
theorem toPL_map : ∀ xs : List D, toPL xs = xs.map toP
  | [] => rfl
  | x :: xs => by
    show toP x :: toPL xs = _
    rw [toPL_map xs]
    rfl
theorem allAlike_of {xs : List D} (h : alikeAllD xs = true) : PySem.W.AllAlike (xs.map toP) := fun a ha b hb => by
  obtain ⟨x, hx, rfl⟩ := List.mem_map.mp ha
  obtain ⟨y, hy, rfl⟩ := List.mem_map.mp hb
  exact (alike_toP (alikeAll_of h x hx y hy)).2.2.1
theorem sortable_of {xs : List D} (h : alikeAllD xs = true) (k : sortableD xs = true) : PySem.W.Sortable (xs.map toP) := by
  unfold sortableD at k
  rcases Bool.or_eq_true_iff.mp k with k | k
  · refine .inl fun a ha => ?_
    obtain ⟨x, hx, rfl⟩ := List.mem_map.mp ha
    have := List.all_eq_true.mp k x hx
    split at this
    · rename_i y ys
      exact ⟨toP y, toPL ys, rfl⟩
    · cases this
  · refine .inr fun a ha => ?_
    obtain ⟨x, hx, rfl⟩ := List.mem_map.mp ha
    have := List.all_eq_true.mp k x hx
    refine ⟨(alike_toP (alikeAll_of h x hx x hx)).2.2.2.1, fun ys z => ?_⟩
    cases x <;> first | exact Bool.noConfusion this | cases z
theorem call_sortedV (hh : X.calm = true) (hu : X.A.units + 70 < cLine) : CallR X (.builtin "sorted") (rBlt (zx X cls exc) (bltD .sorted)) := by
  intro pins s σ H xs us Q I r ⟨F, ds, res, e, vs, hd, q⟩
  unfold bltD at hd
  split at hd <;> first | contradiction | skip
  · rename_i zs _
    split at hd
    · rename_i hc
      cases hd
      rw [Bool.and_eq_true] at hc
      obtain ⟨v, rfl, hv⟩ := vs.one
      obtain ⟨p, ys, rfl, ha, hr⟩ := hv
      obtain ⟨its, rv, hl, hz⟩ := I.list (.of ha)
      rw [Vals.ref1 r]
      have hlen : zs.length = its.length := hr.length.trans rv.length
      refine PySem.W.sorted_data (enc := toP) (bs := zs) (R := fun u d => ∃ v, RelV v u ∧ Rep (zx X cls exc) F d v) hl.isList (each_of hr rv fun d v u h1 h2 => ⟨v, h2, h1⟩) ?_ (allAlike_of hc.1) (sortable_of hc.1 hc.2) (by rw [hr.length]; exact hz) ?_ fun out ho eo => ?_
      · have : PySem.W.EachIs (fun u d => (∃ v, RelV v u ∧ Rep (zx X cls exc) F d v) ∧ d ∈ zs) its zs := PySem.W.each_mem (each_of hr rv fun d v u h1 h2 => ⟨v, h2, h1⟩)
        refine this.mono fun u d ⟨⟨v, h1, h2⟩, hm⟩ => ?_
        exact Dp.reads I _ _ _ (Rep.dp (h2.mono e) (alike_toP (alikeAll_of hc.1 d hm d hm)).1) h1
      · intro d hm
        have := (alike_toP (alikeAll_of hc.1 d hm d hm)).2.2.2.2.1
        rw [depth_toP]
        omega
      · rw [leD_le] at q
        obtain ⟨ws, k1, k2⟩ := of_each eo
        obtain ⟨ep, he'⟩ := PyProof.Rows.sortedAll_at s.heap its out.toArray
        have hsz : ws.length ≤ sizeLine := by rw [← k1.length, List.length_mergeSort, hr.length]; exact hz
        exact ⟨.ref _, upd H (s.heap.objs.size + 1) (.lst ws), I.laid (t' := s.toks) (fun _ _ => PyProof.Rows.sortedAll_old) (Nat.le_succ _) ⟨hsz, out, ep, k2, he'⟩, rfl, q.lst e (I.hok.fresh (Nat.le_succ _)) hsz k1⟩
    · cases hd
  · rename_i kvs _
    split at hd
    · rename_i hc
      cases hd
      rw [Bool.and_eq_true] at hc
      obtain ⟨v, rfl, hv⟩ := vs.one
      obtain ⟨d, o, es, ep, rfl, hdc, re, nd, hz⟩ := hv
      obtain ⟨u, rfl, rx⟩ := vals1 r
      cases rx
      have hm : s.heap.DictRaw d es ep := ⟨o, hdc.get I, hdc.ex, hdc.dat⟩
      have hl := re.length.symm
      rw [Array.length_toList] at hl
      obtain ⟨ks, k1, k2⟩ := re.keys
      refine PySem.Calls.call_function_entry PyProof.Rows.kind_sorted PyProof.Rows.plain_sorted PyProof.Rows.entry_sorted (PyProof.Rows.args_sorted1 _) ?_
      unfold Builtin.«sorted»
      refine wpAny_bind (m := checkCount "sorted" 1 1 _) (wpAny_pure ?_)
      refine wpAny_bind (PySem.W.kdu_collect (A := X.A.in1) (KdlSrc.rawDict (es := es) (ep := ep) hdc.sys) (I.ok.hd hh) hm (by rw [hl]; exact hz) fun h' tk acc hk hi => ?_)
      rw [← keys_acc hi] at k2
      have I2 := I.kept (t' := tk) hk
      have hsz : ks.length ≤ sizeLine := by rw [← k1.length, List.length_map]; exact hz
      have hsa : acc.toList.length ≤ sizeLine := by rw [← k2.length]; exact hsz
      refine wpAny_bind (wpAny_newList ?_ hsa)
      have hoL : (h'.push (PyProof.Rows.seqObj "list" acc.toList.toArray 0)).get? h'.objs.size = some (PyProof.Rows.seqObj "list" acc.toList.toArray 0) := Heap.get?_push_size _ rfl
      have hn : H h'.objs.size = none := I2.hok.fresh (Nat.le_refl _)
      have e1 : PySem.W.EachIs (fun u d => ∃ v, RelV v u ∧ Rep (zx X cls exc) F d v) acc.toList (kvs.map (·.1)) := each_of k1 k2 fun d v u h1 h2 => ⟨v, h2, h1⟩
      have er : PySem.W.EachIs (fun u d => ∃ as, Reads (PySem.W.sortingHeap (h'.push (PyProof.Rows.seqObj "list" acc.toList.toArray 0)) h'.objs.size acc.toList) u (toP d) as) acc.toList (kvs.map (·.1)) := by
        refine (PySem.W.each_mem e1).mono fun u d ⟨⟨v, h1, h2⟩, hm⟩ => ?_
        obtain ⟨as, ra⟩ := Dp.reads I2 _ _ _ (Rep.dp (h2.mono e) (alike_toP (alikeAll_of hc.1 d hm d hm)).1) h1
        exact ⟨as, PyProof.Rows.Reads.keeps (fun b o q => PySem.W.sortingHeap_old (Nat.ne_of_lt (Heap.lt_size q)) (Heap.get?_push_of_some _ q)) ra⟩
      refine wpAny_bind (wpAny_holding (wpAny_call_entry PyProof.Rows.slot_list_sort ⟨_, hoL, rfl⟩ PyProof.Rows.entry_list_sort (PySem.W.list_sort_vals (κ := PySem.W.dataKind (PySem.W.sortingHeap (h'.push (PyProof.Rows.seqObj "list" acc.toList.toArray 0)) h'.objs.size acc.toList) ((kvs.map (·.1)).map toP)) hoL
        (PySem.W.SortsAt.data (s := { s with heap := PySem.W.sortingHeap (h'.push (PyProof.Rows.seqObj "list" acc.toList.toArray 0)) h'.objs.size acc.toList, toks := tk }) (PySem.W.each_map (R := fun v d => ∃ as, Reads (PySem.W.sortingHeap (h'.push (PyProof.Rows.seqObj "list" acc.toList.toArray 0)) h'.objs.size acc.toList) v d as) toP er) (allAlike_of hc.1) (sortable_of hc.1 hc.2) (PySem.W.bound_map ?_)) hsa ⟨.none, rfl, ?_⟩) (PyProof.Rows.args_list_sort _)))
      · intro d hm
        have := (alike_toP (alikeAll_of hc.1 d hm d hm)).2.2.2.2.1
        rw [depth_toP]
        simp only [Around.in1_units]
        omega
      · have eo := PySem.W.sortVals_data false e1 er (allAlike_of hc.1)
        generalize PySem.W.sortVals (PySem.W.dataKind (PySem.W.sortingHeap (h'.push (PyProof.Rows.seqObj "list" acc.toList.toArray 0)) h'.objs.size acc.toList) ((kvs.map (·.1)).map toP)) false acc.toList acc.toList = out at eo ⊢
        rw [leD_le] at q
        obtain ⟨ws, w1, w2⟩ := of_each eo
        obtain ⟨c, hcc⟩ := PyProof.Rows.sortedHeap_at (vs := acc.toList) (out := out.toArray) hoL
        have hwz : ws.length ≤ sizeLine := by rw [← w1.length, List.length_mergeSort, List.length_map]; exact hz
        refine wpAny_pure ⟨_, rfl, ?_⟩
        refine ⟨.ref h'.objs.size, upd H h'.objs.size (.lst ws), I2.laid (t' := tk) (fun b u q => ?_) (Nat.le_refl _) ⟨hwz, out, c, w2, hcc⟩, rfl, q.lst e hn hwz w1⟩
        have hlt := Heap.lt_size q
        show (PyProof.Rows.sortedHeap (h'.push (PyProof.Rows.seqObj "list" acc.toList.toArray 0)) h'.objs.size acc.toList out.toArray).get? b = some u
        rw [PyProof.Rows.sortedHeap_old (Nat.ne_of_lt hlt) (by rw [PyProof.Rows.size_push']; exact Nat.lt_succ_of_lt hlt)]
        exact Heap.get?_push_of_some _ q
    · cases hd
end
end VL
end
section
/-! V14: built-in calls, methods. -/
namespace VL
open PySem PySem.Spec PyProof.Rows L2

section
variable {X : Cx} {cls : Clz} {exc : List (Addr × List Str)} {W : WX} {G : List Fd} {C : List D} {e a b c : Expr} {es : List Expr} {xa xb xc : Ex} {xs : Ar} {pos p : Pos} {f : Str}
variable {Z : Zx} {r r' r2 : Fr} {σ : L2.St} {F F' F2 H H' H2 : Hp} {fp fp' fp2 : Nat → List Addr} {s : Shared} {pins : List (Addr × Obj)}
theorem VRL.views (R : Rel Z r σ F H fp) : ∀ {vs : List V} {fr : List Addr} {xs : List Vl} {ds : List D}, VRL Z r σ F H fp vs fr xs → xs.mapM (Vl.get r) = some ds → ViewL Z F H vs ds
  | [], _, [], _, _, e => by
    cases e
    exact .nil
  | v :: vs, _, x :: xs, ds, ⟨f1, f2, e1, h1, h2, h3⟩, e => by
    rw [List.mapM_cons] at e
    cases q : x.get r with
    | none => rw [q] at e; cases e
    | some d =>
      cases q2 : xs.mapM (Vl.get r) with
      | none => rw [q, q2] at e; cases e
      | some ds' =>
        rw [q, q2] at e
        cases e
        exact .cons (h1.view R q) (VRL.views R h2 q2)
  | [], _, _ :: _, _, h, _ => h.elim
  | _ :: _, _, [], _, h, _ => h.elim
theorem bltD_var {b : Blt} {ds : List D} {i : Nat} : bltD b ds ≠ some (.var i) := fun h => by
  unfold bltD at h
  split at h <;> first
    | cases h
    | (rw [Option.map_eq_some_iff] at h; obtain ⟨_, _, h⟩ := h; cases h)
    | (rw [Option.bind_eq_some_iff] at h; obtain ⟨_, _, h⟩ := h; split at h <;> cases h)
    | (split at h <;> first | cases h | (rw [Option.map_eq_some_iff] at h; obtain ⟨_, _, h⟩ := h; cases h))
theorem rBlt_aft {b0 : Bs} {f : List D → Option Vl} {r1 : Fr} {xs : List V} {vs : List Vl} {fr : List Addr} {Q : VK} {b1 : Bs} (hv : ∀ ds i, f ds ≠ some (.var i)) (A1 : Aft (Z := Z) (σ := σ) (PVls Z σ) b0 b1 xs H vs r1 F fp fr)
    (g : GdG Z σ (PVl Z σ) b0 W Q (orBad (vs.mapM (Vl.get r1)) fun ds => orBad (f ds) fun v => .ok v r1)) : rBlt Z f xs H Q := by
  obtain ⟨ds, h1, g1⟩ := g.orBad
  obtain ⟨res, h2, g2⟩ := g1.orBad
  exact ⟨F, ds, res, A1.R.same, A1.p.views A1.R h1, h2, .of A1.R A1.e (fun i z => hv ds i (by rw [h2, z])) g2⟩
theorem pe_bltB {bt : Blt} {id : String} (hc : CallR X (.builtin id) (rBlt (zx X cls exc) (bltD bt))) (hg : Gl X f) (hm : X.mg f = none) (hv : bootBuiltins f = some (.builtin id)) (ha : PA X (e :: es) (tA X cls exc W G C xs)) (hn : f ≠ "__name__" := by decide) (hdb : (f == ("__debug__" : Str)) = false := by decide)
    (he : starEach (e :: es) X.env = (false, eval e X.env) :: starEach es X.env := by rfl) (hpl : (backTo pos (starEach es X.env)).any (·.1) = false := by rfl) : PE X (.Call (.Name f p) (e :: es) [] pos) (tE X cls exc W G C (.blt bt xs)) := by
  refine (pe_callB hc hg hm hv ha hn hdb he hpl).cons fun σ H Q ⟨r, F, fp, R, g⟩ => ?_
  rw [evE] at g
  obtain ⟨r0, F0, fp0, R0, g0⟩ := stepA R (.refl ..) g
  exact ⟨r0, F0, fp0, R0, g0.mono fun ys H1 ⟨vs, r1, F1, fp1, f1, A1, g1⟩ => rBlt_aft (fun _ _ => bltD_var) A1 g1⟩
theorem pe_bltT {bt : Blt} {id : String} (hc : CallR X (.type id) (rBlt (zx X cls exc) (bltD bt))) (hg : Gl X f) (hm : X.mg f = none) (hv : bootBuiltins f = some (.type id)) (ha : PA X (e :: es) (tA X cls exc W G C xs)) (hn : f ≠ "__name__" := by decide) (hdb : (f == ("__debug__" : Str)) = false := by decide)
    (he : starEach (e :: es) X.env = (false, eval e X.env) :: starEach es X.env := by rfl) (hpl : (backTo pos (starEach es X.env)).any (·.1) = false := by rfl) : PE X (.Call (.Name f p) (e :: es) [] pos) (tE X cls exc W G C (.blt bt xs)) := by
  refine (pe_callTy hc hg hm hv ha hn hdb he hpl).cons fun σ H Q ⟨r, F, fp, R, g⟩ => ?_
  rw [evE] at g
  obtain ⟨r0, F0, fp0, R0, g0⟩ := stepA R (.refl ..) g
  exact ⟨r0, F0, fp0, R0, g0.mono fun ys H1 ⟨vs, r1, F1, fp1, f1, A1, g1⟩ => rBlt_aft (fun _ _ => bltD_var) A1 g1⟩

/-! ### methods -/
def tyW (K : PySem.W.Frag) (T : String) (x : V) (H : Hp) : Prop := tyV K T x H ∨ (T = "tuple" ∧ ∃ a xs, x = .ref a ∧ SqN K H a xs) ∨ (T = "dict" ∧ ∃ a o es ep, x = .ref a ∧ DcO H a o es ep) ∨ (T = "dict" ∧ ∃ a es n, x = .ref a ∧ K.lookup a = some ⟨.type "dict", none, .dict es n, #[]⟩)
theorem tyW_is {T : String} {x : V} {v : Value} (I : Inv X pins σ H s) (r : RelV x v) (ty : tyW X.K T x H) : s.TypeIs v T ∧ ∀ a, v = .ref a → ∃ ob, s.heap.get? a = some ob ∧ ob.dict = none := by
  rcases ty with ty | ⟨rfl, a, xs, rfl, h⟩ | ⟨rfl, a, o, es, ep, rfl, h⟩ | ⟨rfl, a, es, n, rfl, h⟩
  · exact tyV_is I r ty
  · cases r
    rcases h with ⟨o, h, hd⟩ | ⟨o, its, n, h1, h2, h3, h4⟩
    · obtain ⟨e1, z, its, rv, ob, e2, hc, n, hd2⟩ := I.hok a _ h
      rw [e1] at e2; cases e2
      refine ⟨⟨o, e1, hc⟩, fun a e => ?_⟩
      cases e
      exact ⟨o, e1, hd⟩
    · refine ⟨⟨o, I.kIn a o h1, h2⟩, fun a e => ?_⟩
      cases e
      exact ⟨o, I.kIn _ o h1, h3⟩
  · cases r
    refine ⟨⟨o, h.get I, h.ex.1⟩, fun a e => ?_⟩
    cases e
    exact ⟨o, h.get I, h.ex.2.1⟩
  · cases r
    refine ⟨⟨_, I.kIn a _ h, rfl⟩, fun b e => ?_⟩
    cases e
    exact ⟨_, I.kIn _ _ h, rfl⟩
def tMW (K : PySem.W.Frag) (T : String) (r : V → List V → Hp → VK → Prop) (to : TE) (t : TA) : TE := fun σ H Q => to σ H fun x H1 => tyW K T x H1 ∧ t σ H1 fun xs H2 => r x xs H2 Q
theorem pe_mW {o : Expr} {to : TE} {t : TA} {name : Str} {apos cpos : Pos} {T id : String} {r : V → List V → Hp → VK → Prop} (pa : PlainAttrs T) (slot : Slot T name id) (hty : typeOf (.builtin id) = pure (.type "method_descriptor")) (hm : MtR X id r) (ho : PE X o to) (ha : PA X (e :: es) t)
    (hbase : attributeBase o name X.env (eval o X.env) = eval o X.env := by rfl)
    (hfew : ((backTo cpos (starEach (e :: es) X.env)).all (fun x => !x.1) && (backToKw cpos (keywordEach [] X.env)).all (fun x => x.1.isSome)
      && decide ((e :: es).length + ([] : List Keyword).length + (if ([] : List Keyword).isEmpty then 0 else 1) < 30)) = true := by rfl)
    (hline : (apos.endLine == cpos.line) = true := by rfl) (hs : starEach (e :: es) X.env = (false, eval e X.env) :: starEach es X.env := by rfl) (hplain : (backTo cpos (starEach es X.env)).any (·.1) = false := by rfl) :
    PE X (.Call (.Attribute o name apos) (e :: es) [] cpos) (tMW X.K T r to t) := by
  refine ⟨fun pins s σ H Q I h => ?_⟩
  refine wpAny_Call_method_late hbase hfew hline rfl (thn (ho.run pins s σ H _ I h) fun v s1 ⟨x, H1, I1, r1, ty, q1⟩ => ?_)
  obtain ⟨h1, h2⟩ := tyW_is I1 r1 ty
  refine ⟨T, id, pa, slot, hty, h1, h2, ?_⟩
  have hA := ha.run cpos pins s1 σ H1 _ I1 q1
  rw [hs] at hA ⊢
  refine Calls.callWith_builtin (by show (false || (backTo cpos (starEach es X.env)).any (·.1)) = false; rw [hplain] <;> rfl) (Calls.evalArgs_plain ?_)
  exact thn hA fun us s2 ⟨vs, H2, I2, r2, q2⟩ => hm pins s2 σ H2 x vs v us Q I2 r1 r2 q2
def rBme (Z : Zx) (f : D → List D → Option Vl) : V → List V → Hp → VK → Prop := fun x xs H Q => ∃ F d ds res, Same F H ∧ View Z F H x d ∧ ViewL Z F H xs ds ∧ f d ds = some res ∧ ResV Z F H Q res
theorem bmeD_var {b : Bme} {d : D} {ds : List D} {i : Nat} : bmeD b d ds ≠ some (.var i) := fun h => by
  unfold bmeD at h
  split at h
  · obtain ⟨xs, _, h⟩ := Option.bind_eq_some_iff.mp h
    split at h <;> cases h
  · split at h <;> cases h
  · split at h
    · obtain ⟨n, _, h⟩ := Option.map_eq_some_iff.mp h
      cases h
    · cases h
  · cases h
theorem bme_ty {m : Bme} {d : D} {v : V} {T : String} (hT : T = match m with | .index => "tuple" | _ => "str") (e : Same F H) (h : View Z F H v d) (hk : bmeK m (some d) = true) : tyW Z.K T v H := by
  subst hT
  unfold bmeK at hk
  split at hk
  · rename_i hd
    cases hd
    cases h
    exact .inl rfl
  · rename_i hd
    cases hd
    cases h
    exact .inl rfl
  · rename_i hd
    cases hd
    obtain ⟨a, xs, rfl, h1, _⟩ := h.tupN e
    exact .inr (.inl ⟨rfl, a, xs, rfl, h1⟩)
  · cases hk
theorem pe_bmeV {m : Bme} {T id : String} {name : Str} {apos cpos : Pos} (hT : T = match m with | .index => "tuple" | _ => "str") (pa : PlainAttrs T) (slot : Slot T name id) (hty : typeOf (.builtin id) = pure (.type "method_descriptor")) (hm : MtR X id (rBme (zx X cls exc) (bmeD m)))
    (ho : PE X a (tE X cls exc W G C xa)) (ha : PA X (e :: es) (tA X cls exc W G C xs))
    (hbase : attributeBase a name X.env (eval a X.env) = eval a X.env := by rfl)
    (hfew : ((backTo cpos (starEach (e :: es) X.env)).all (fun x => !x.1) && (backToKw cpos (keywordEach [] X.env)).all (fun x => x.1.isSome)
      && decide ((e :: es).length + ([] : List Keyword).length + (if ([] : List Keyword).isEmpty then 0 else 1) < 30)) = true := by rfl)
    (hline : (apos.endLine == cpos.line) = true := by rfl) (hs : starEach (e :: es) X.env = (false, eval e X.env) :: starEach es X.env := by rfl) (hplain : (backTo cpos (starEach es X.env)).any (·.1) = false := by rfl) :
    PE X (.Call (.Attribute a name apos) (e :: es) [] cpos) (tE X cls exc W G C (.bme m xa xs)) := by
  refine (pe_mW pa slot hty hm ho ha hbase hfew hline hs hplain).cons fun σ H Q ⟨r, F, fp, R, g⟩ => ?_
  rw [evE] at g
  obtain ⟨r0, F0, fp0, R0, g0⟩ := step R (.refl ..) g
  refine ⟨r0, F0, fp0, R0, g0.mono fun x H1 ⟨va, r1, F1, fp1, f1, A1, g1⟩ => ?_⟩
  split at g1
  · rename_i hk
    refine ⟨?_, ?_⟩
    · cases hd : va.get r1 with
      | none =>
        rw [hd] at hk
        unfold bmeK at hk
        split at hk <;> first | contradiction | (rename_i z; cases z)
      | some d =>
        rw [hd] at hk
        exact bme_ty hT A1.R.same (A1.p.view A1.R hd) hk
    · obtain ⟨r2, F2, fp2, R2, g2⟩ := stepA A1.R A1.e g1
      refine ⟨r2, F2, fp2, R2, g2.mono fun ys H2 ⟨vs, r3, F3, fp3, f3, A3, g3⟩ => ?_⟩
      obtain ⟨d, h1, g4⟩ := g3.orBad
      obtain ⟨ds, h2, g5⟩ := g4.orBad
      obtain ⟨res, h3, g6⟩ := g5.orBad
      exact ⟨F3, d, ds, res, A3.R.same, (A1.p.ext A3.e1).view A3.R h1, A3.p.views A3.R h2, h3, .of A3.R A3.e (fun i z => bmeD_var (by rw [h3, z])) g6⟩
  · exact g1.elim
theorem strs_of {ds : List D} : ∀ {xs : List V} {ss : List Str}, RepL Z F ds xs → strsOf ds = some ss → xs = ss.map V.str := by
  induction ds with
  | nil => intro xs ss h e; cases h; cases e; rfl
  | cons d ds ih =>
    intro xs ss h e
    cases h with
    | cons h1 h2 =>
      cases d with
      | str y =>
        cases h1
        obtain ⟨ss', e1, e2⟩ := Option.map_eq_some_iff.mp e
        rw [ih h2 e1, ← e2]
        rfl
      | _ => cases e
theorem mt_joinV : MtR X "str.join" (rBme (zx X cls exc) (bmeD .join)) := by
  intro pins s σ H x xs v us Q I rx rs ⟨F, d, ds, res, e, vx, vs, hd, q⟩
  unfold bmeD at hd
  split at hd <;> first | contradiction | skip
  obtain ⟨ss, h1, h2⟩ := Option.bind_eq_some_iff.mp hd
  split at h2
  · rename_i hz
    cases h2
    cases vx
    obtain ⟨w, rfl, hv⟩ := vs.one
    obtain ⟨p, ys, rfl, ha, hr⟩ := hv
    have := strs_of hr h1
    subst this
    exact mt_join pins s σ H _ _ v us Q I rx rs ⟨_, p, ss, rfl, rfl, .inl (.of ha), hz, q.str e⟩
  · cases h2
theorem RepL.strs : ∀ ss : List Str, RepL Z F (ss.map D.str) (ss.map V.str)
  | [] => .nil
  | s :: ss => .cons (.str s) (RepL.strs ss)
theorem mt_splitV : MtR X "str.split" (rBme (zx X cls exc) (bmeD .split)) := by
  intro pins s σ H x xs v us Q I rx rs ⟨F, d, ds, res, e, vx, vs, hd, q⟩
  unfold bmeD at hd
  split at hd <;> first | contradiction | skip
  rename_i zz sep _
  split at hd
  · rename_i hz
    cases hd
    cases vx
    obtain ⟨w, rfl, hv⟩ := vs.one
    cases hv
    have hz2 : (Txt.split _ sep).length ≤ sizeLine := Nat.le_trans (PyProof.Rows.split_le _ _) (by rw [← lim_line]; exact hz.2)
    exact mt_split pins s σ H _ _ v us Q I rx rs ⟨_, _, rfl, rfl, by rw [beq_eq_false_iff_ne]; exact hz.1, by rw [← lim_line]; exact hz.2, fun p hp => q.lst e hp (by rw [List.length_map]; exact hz2) (RepL.strs _)⟩
  · cases hd
mutual
theorem plain_toP : ∀ d : D, plainD d = true → (toP d).plain = true
  | .non, _ => rfl
  | .bl b, _ => rfl
  | .int i, _ => rfl
  | .str x, e => by first | exact e | rfl
  | .tup ds, e => plain_toPL ds e
  | .lst ds, e => plain_toPL ds e
  | .dct _, e => by cases e
  | .obj _ _, e => by cases e
  | .rng _ _ _ _, e => by cases e
theorem plain_toPL : ∀ ds : List D, plainL ds = true → PyData.plainAll (toPL ds) = true
  | [], _ => rfl
  | d :: ds, e => by
    have e' : (plainD d && plainL ds) = true := e
    rw [Bool.and_eq_true] at e'
    show ((toP d).plain && PyData.plainAll (toPL ds)) = true
    rw [plain_toP d e'.1, plain_toPL ds e'.2]
    rfl
end
theorem findD_idx {x : D} : ∀ {ys : List D} {k n : Nat}, findD x ys k = some n → true ∈ ys.map (fun y => eqv y x) ∧ n = k + (ys.map fun y => eqv y x).idxOf true
  | [], _, _, h => by cases h
  | y :: ys, k, n, h => by
    unfold findD at h
    rw [List.map_cons, List.idxOf_cons]
    split at h
    · rename_i hq
      cases h
      rw [hq]
      exact ⟨List.mem_cons_self, by simp⟩
    · rename_i hq
      obtain ⟨h1, h2⟩ := findD_idx h
      have : (eqv y x == true) = false := by simpa using hq
      rw [this]
      refine ⟨List.mem_cons_of_mem _ h1, ?_⟩
      simp only [cond_false]
      omega
theorem depth_mem {ds : List D} {d : D} (h : d ∈ ds) : depthD d ≤ depthL ds := by
  induction ds with
  | nil => cases h
  | cons e es ih =>
    show depthD d ≤ max (depthD e) (depthL es)
    rcases List.mem_cons.mp h with z | z
    · rw [z]; exact Nat.le_max_left _ _
    · exact Nat.le_trans (ih z) (Nat.le_max_right _ _)
theorem plain_mem {ds : List D} {d : D} (h : plainL ds = true) (hd : d ∈ ds) : plainD d = true := by
  induction ds with
  | nil => cases hd
  | cons e es ih =>
    have h' : (plainD e && plainL es) = true := h
    rw [Bool.and_eq_true] at h'
    rcases List.mem_cons.mp hd with z | z
    · rw [z]; exact h'.1
    · exact ih h'.2 z
theorem mt_indexV (hu : X.A.units + 70 < cLine) : MtR X "tuple.index" (rBme (zx X cls exc) (bmeD .index)) := by
  intro pins s σ H x xs v us Q I rx rs ⟨F, d, ds, res, e, vx, vs, hd, q⟩
  unfold bmeD at hd
  split at hd <;> first | contradiction | skip
  rename_i ys y _
  split at hd
  · rename_i hc
    simp only [Bool.and_eq_true, decide_eq_true_eq] at hc
    obtain ⟨⟨⟨p1, p2⟩, p3⟩, p4⟩ := hc
    obtain ⟨n, h1, h2⟩ := Option.map_eq_some_iff.mp hd
    subst h2
    obtain ⟨w, rfl, hv⟩ := vs.one
    obtain ⟨a, zs, rfl, ha, hr⟩ := View.tupE vx e
    obtain ⟨u, rfl, ru⟩ := vals1 rs
    cases rx
    obtain ⟨its, rv, ht, hz⟩ := I.tuple ha
    obtain ⟨bs, rb⟩ := Dp.reads I _ _ _ ((hv.rep e (freeze_plain p2)).dp p2) ru
    obtain ⟨k1, k2⟩ := findD_idx h1
    rw [Nat.zero_add] at k2
    subst k2
    refine PySem.SeqAt.call_tuple_index (ks := ys.map fun z => eqv z y) (k := true) (x := u) (vs := its) ht ⟨by rw [List.length_map, hr.length, rv.length], fun j l1 l2 => ?_⟩ k1 ?_
    · rw [List.getElem_map]
      have hj : j < ys.length := by rw [List.length_map] at l2; exact l2
      have hm : ys[j] ∈ ys := List.getElem_mem hj
      obtain ⟨vv, e1, e2⟩ := hr.get (List.getElem?_eq_getElem hj)
      obtain ⟨uu, e3, e4⟩ := rv.get e1
      rw [List.getElem?_eq_getElem l1] at e3
      cases e3
      have pj := plain_mem p1 hm
      obtain ⟨as, ra⟩ := Dp.reads I _ _ _ (Rep.dp (e2.mono e) pj) e4
      have : decide (eqv ys[j] y = true) = PyData.eqv (toP ys[j]) (toP y) := by
        rw [← eqv_toP _ _ pj p2]
        simp
      rw [this]
      refine PySem.SeqAt.eqAt_plain _ _ _ _ _ _ as bs ra rb (plain_toP _ pj) (plain_toP _ p2) ?_
      rw [depth_toP, depth_toP]
      have := Nat.min_le_right (depthD ys[j]) (depthD y)
      show X.A.units + 1 + _ < _
      omega
    · exact ⟨.int _, H, I.tok _, ⟨_, rfl⟩, q.int e⟩
  · cases hd
end
end VL
end
section
/-! V15: isinstance, get, ranges as tuples and lists, changes of one's own. -/
namespace VL
open PySem PySem.Spec PyProof.Rows L2

section
variable {X : Cx} {cls : Clz} {exc : List (Addr × List Str)} {W : WX} {G : List Fd} {C : List D} {e a b c : Expr} {es : List Expr} {xa xb xc : Ex} {xs : Ar} {pos p : Pos} {f : Str}
variable {Z : Zx} {r r' r2 : Fr} {σ : L2.St} {F F' F2 H H' H2 : Hp} {fp fp' fp2 : Nat → List Addr} {s : Shared} {pins : List (Addr × Obj)}
/-! ### isinstance -/
theorem kit_view {d : D} {x : V} {u : Value} {n : String} (I : Inv X pins σ H s) (e : Same F H) (rx : RelV x u) (h : View (zx X cls exc) F H x d) (hn : tyName d = some n) : ∃ P : Heap → Prop, PySem.W.KitX X.K u (.type n) P ∧ P s.heap ∧ u ≠ .builtin "__main__.__loader__#opaque" := by
  cases d with
  | non => cases h; cases hn; exact kit_of I rx (.base .non)
  | bl b => cases h; cases hn; exact kit_of I rx (.base (.bl b))
  | int i => cases h; cases hn; exact kit_of I rx (.base (.int i))
  | str x => cases h; cases hn; exact kit_of I rx (.base (.str x))
  | tup ds =>
    obtain ⟨a, xs, rfl, h1, _⟩ := h.tupN e
    cases hn
    rcases h1 with ⟨o, h1, _⟩ | ⟨o, its, k, h1, h2, _⟩
    · exact kit_of I rx (.fTuple h1)
    · exact kit_of I rx (.kTuple h1 h2)
  | lst ds =>
    obtain ⟨a, xs, rfl, h1, _⟩ := h
    cases hn
    exact kit_of I rx (.base (.lst h1))
  | dct kvs =>
    obtain ⟨a, o, es, ep, rfl, h1, _⟩ := h
    cases hn
    cases rx
    exact ⟨_, PySem.W.kitx_dict, ⟨o, h1.get I, h1.ex.1⟩, fun z => nomatch z⟩
  | obj _ _ => cases hn
  | rng _ _ _ _ => cases hn
  | exn _ _ => cases hn
theorem isi_kit {t : Ty} {d : D} {n : String} {b : Bool} (hn : tyName d = some n) (h : isiD t d = some b) : PySem.W.kitOne X.K (.type n) (.type (tyStr t)) = some b := by
  cases d <;> cases t <;> first | (cases hn; cases h; exact kit_ty (by decide +kernel)) | cases hn
theorem isi_name {t : Ty} {d : D} {b : Bool} (h : isiD t d = some b) : ∃ n, tyName d = some n := by
  cases d <;> first | exact ⟨_, rfl⟩ | cases h
def rIsiV (Z : Zx) (t : Ty) : List V → Hp → VK → Prop := fun xs H Q => ∃ F x d b, xs = [x, .ty (tyStr t)] ∧ Same F H ∧ View Z F H x d ∧ isiD t d = some b ∧ Q (.bl b) H
theorem call_isiV {t : Ty} : CallR X (.builtin "isinstance") (rIsiV (zx X cls exc) t) := by
  intro pins s σ H xs us Q I r ⟨F, x, d, b, hx, e, vx, hd, q⟩
  subst hx
  obtain ⟨u1, u2, rfl, r1, r2⟩ := vals2 r
  cases (show u2 = Value.type _ from r2)
  obtain ⟨n, hn⟩ := isi_name hd
  obtain ⟨P, Z, p, hx⟩ := kit_view I e r1 vx hn
  exact PySem.W.kia_one Z I.kIn p (isi_kit hn hd) hx fun tk => ⟨.bl b, H, I.tok tk, rfl, q⟩
theorem pe_isiV {t : Ty} {ts : Str} {p2 : Pos} (hg : Gl X "isinstance") (hm : X.mg "isinstance" = none) (hgt : Gl X ts) (hmt : X.mg ts = none) (hbt : bootBuiltins ts = some (.type (tyStr t))) (ha : PE X a (tE X cls exc W G C xa)) (hn : ts ≠ "__name__" := by decide) (hdb : (ts == ("__debug__" : Str)) = false := by decide)
    (he : starEach [a, .Name ts p2] X.env = (false, eval a X.env) :: starEach [.Name ts p2] X.env := by rfl) (hpl : (backTo pos (starEach [.Name ts p2] X.env)).any (·.1) = false := by rfl) : PE X (.Call (.Name "isinstance" p) [a, .Name ts p2] [] pos) (tE X cls exc W G C (.isi t xa)) := by
  refine (pe_callB (call_isiV (cls := cls) (exc := exc) (t := t)) hg hm PyProof.Rows.boot_isinstance (pa_cons ha (pa_cons (pe_bltn (v := .ty (tyStr t)) hgt hmt hbt rfl hn hdb) pa_nil) he) (by decide) (by decide) he hpl).cons fun σ H Q ⟨r, F, fp, R, g⟩ => ?_
  rw [evE] at g
  obtain ⟨r0, F0, fp0, R0, g0⟩ := step R (.refl ..) g
  refine ⟨r0, F0, fp0, R0, g0.mono fun x H1 ⟨va, r1, F1, fp1, f1, A1, g1⟩ => ?_⟩
  split at g1
  · rename_i d hd
    obtain ⟨bb, hb, g2⟩ := g1.orBad
    exact ⟨F1, x, d, bb, rfl, A1.R.same, A1.p.view A1.R hd, hb, fro_now g2 A1.e A1.R (.bl bb)⟩
  · exact g1.elim
/-! ### ranges -/
theorem rng_rep {lo hi : Int} {ds : List D} (h : rangeD lo hi = some ds) : RgOk lo hi ∧ RepL Z F ds (rgV lo hi) := by
  unfold rangeD at h
  split at h
  · rename_i hc
    cases h
    refine ⟨⟨hc.1, hc.2.1, hc.2.2.1, hc.2.2.2.1, ?_⟩, ?_⟩
    · have h1 : hi - lo ≤ (LIM : Int) := hc.2.2.2.2
      have h2 : (LIM : Int) = 16777216 := rfl
      omega
    · unfold rgV
      have : ∀ l : List Nat, RepL Z F (l.map fun (k : Nat) => D.int (lo + (k : Int))) (l.map fun (k : Nat) => V.int (lo + (k : Nat))) := fun l => by
        induction l with
        | nil => exact .nil
        | cons k l ih => exact .cons (.int _) ih
      exact this _
  · cases h
theorem pe_tupRV {p0 pos0 : Pos} (hc : X.calm = true) (hg : Gl X "tuple") (hm : X.mg "tuple" = none) (hg2 : Gl X "range") (hm2 : X.mg "range" = none) (ha : PE X a (tE X cls exc W G C xa))
    (na0 : starEach [a] X.env = (false, eval a X.env) :: starEach [] X.env := by rfl)
    (na : starEach [.Call (.Name "range" p0) [a] [] pos0] X.env = (false, eval (.Call (.Name "range" p0) [a] [] pos0) X.env) :: starEach [] X.env := by rfl) :
    PE X (.Call (.Name "tuple" p) [.Call (.Name "range" p0) [a] [] pos0] [] pos) (tE X cls exc W G C (.blt .tupR (.cons xa .nil))) := by
  refine (pe_tupRgN hc hg hm (prg_1 hg2 hm2 ha na0) na).cons fun σ H Q ⟨r, F, fp, R, g⟩ => ?_
  rw [evE, evA] at g
  cases hm : evE G C xa r with
  | bad => rw [hm] at g; exact g.elim
  | exc c fs r1 => rw [hm] at g; exact ⟨r, F, fp, R, by rw [hm]; exact g⟩
  | ok v r1 =>
    rw [hm] at g
    refine ⟨r, F, fp, R, ?_⟩
    rw [hm]
    intro y fr F' H' fp' e1 R1 p1 f1
    have g1 : GdG (zx X cls exc) σ (PVl (zx X cls exc) σ) ⟨r, fp, F, H⟩ W Q (orBad ([v].mapM (Vl.get r1)) fun ds => orBad (bltD .tupR ds) fun v => .ok v r1) := g
    obtain ⟨ds, h1, g2⟩ := g1.orBad
    obtain ⟨res, h2, g3⟩ := g2.orBad
    have pl : VRL (zx X cls exc) r1 σ F' H' fp' [y] (fr ++ []) [v] := ⟨fr, [], rfl, p1, rfl, fun _ _ z => nomatch z⟩
    have vw := pl.views R1 h1
    unfold bltD at h2
    split at h2 <;> first | contradiction | skip
    obtain ⟨xs, h3, h4⟩ := Option.map_eq_some_iff.mp h2
    subst h4
    obtain ⟨w, hw, hv⟩ := vw.one
    cases hw
    cases hv
    obtain ⟨k1, k2⟩ := rng_rep (Z := zx X cls exc) (F := F') h3
    exact ⟨_, rfl, k1, (ResV.of R1 e1 (fun i z => by cases z) g3).tup R1.same k2⟩
theorem pe_lstRV {p0 pos0 : Pos} (hc : X.calm = true) (hg : Gl X "list") (hm : X.mg "list" = none) (hg2 : Gl X "range") (hm2 : X.mg "range" = none) (ha : PE X a (tE X cls exc W G C xa))
    (na0 : starEach [a] X.env = (false, eval a X.env) :: starEach [] X.env := by rfl)
    (na : starEach [.Call (.Name "range" p0) [a] [] pos0] X.env = (false, eval (.Call (.Name "range" p0) [a] [] pos0) X.env) :: starEach [] X.env := by rfl) :
    PE X (.Call (.Name "list" p) [.Call (.Name "range" p0) [a] [] pos0] [] pos) (tE X cls exc W G C (.blt .lstR (.cons xa .nil))) := by
  refine (pe_listRg hc hg hm (prg_1 hg2 hm2 ha na0) na).cons fun σ H Q ⟨r, F, fp, R, g⟩ => ?_
  rw [evE, evA] at g
  cases hm : evE G C xa r with
  | bad => rw [hm] at g; exact g.elim
  | exc c fs r1 => rw [hm] at g; exact ⟨r, F, fp, R, by rw [hm]; exact g⟩
  | ok v r1 =>
    rw [hm] at g
    refine ⟨r, F, fp, R, ?_⟩
    rw [hm]
    intro y fr F' H' fp' e1 R1 p1 f1
    have g1 : GdG (zx X cls exc) σ (PVl (zx X cls exc) σ) ⟨r, fp, F, H⟩ W Q (orBad ([v].mapM (Vl.get r1)) fun ds => orBad (bltD .lstR ds) fun v => .ok v r1) := g
    obtain ⟨ds, h1, g2⟩ := g1.orBad
    obtain ⟨res, h2, g3⟩ := g2.orBad
    have pl : VRL (zx X cls exc) r1 σ F' H' fp' [y] (fr ++ []) [v] := ⟨fr, [], rfl, p1, rfl, fun _ _ z => nomatch z⟩
    have vw := pl.views R1 h1
    unfold bltD at h2
    split at h2 <;> first | contradiction | skip
    obtain ⟨xs, h3, h4⟩ := Option.map_eq_some_iff.mp h2
    subst h4
    obtain ⟨w, hw, hv⟩ := vw.one
    cases hw
    cases hv
    obtain ⟨k1, k2⟩ := rng_rep (Z := zx X cls exc) (F := F') h3
    refine ⟨_, rfl, k1, fun q hq => (ResV.of R1 e1 (fun i z => by cases z) g3).lst R1.same hq ?_ k2⟩
    rw [rgV_length, ← lim_line]
    have h2 : (LIM : Nat) = 16777216 := rfl
    have := k1.2.2.2.2
    omega

/-! ### d.get(k, x) -/
def rGet2 (Z : Zx) : V → List V → Hp → VK → Prop := fun x xs H Q => ∃ F kvs k y n vk vy, Same F H ∧ View Z F H x (.dct kvs) ∧ xs = [vk, vy] ∧ Rep Z F k vk ∧ Rep Z F y vy ∧ keyOk k = some n ∧ oneMake k kvs = true ∧ ∀ v, Rep Z F ((lookD n kvs).getD y) v → Q v H
theorem mt_get2V (hu : X.A.units + 70 < cLine) : MtR X "dict.get" (rGet2 (zx X cls exc)) := by
  intro pins s σ H x xs v us Q I rx rs ⟨F, kvs, k, y, n, vk, vy, e, vx, hx, hk, hy, hn, ho, q⟩
  subst hx
  obtain ⟨d, o, es, ep, rfl, hdc, re, nd, hz⟩ := vx
  obtain ⟨u1, u2, rfl, r1, r2⟩ := vals2 rs
  cases rx
  cases ht : isTup k with
  | true =>
    obtain ⟨xs, px, hm⟩ := dct_h I hdc re e nd (oneMake_t ho ht)
    cases k with
    | tup ds =>
      obtain ⟨k1, k2⟩ := keyOk_tup hn
      obtain ⟨b, hb⟩ := isTup_ref hk rfl
      subst hb
      cases r1
      have hkey : (nestedKind X.prog X.w).is s.heap n b := ⟨Rep.nested (cls := cls) (exc := exc) I (hk.mono e) rfl k1, k2⟩
      have hroom : (nestedKind X.prog X.w).room X.A.in1 := by show X.A.units + 1 + 8 < cLine; omega
      refine call_meetsIn PySem.F.slot_dict_get hm.typeIs PySem.F.entry_dict_get (PySem.F.args_dict_get_3 _ _ _) (meetsH_dict_get_default (nestedKind X.prog X.w) d b hdc.sys u2) ⟨hroom, n, xs, hkey, hm, ?_⟩
      rcases px.look (n := n) with ⟨e1, e2⟩ | ⟨w, vv, pp, e1, e2, e3, e4⟩
      · rw [e1] at q
        rw [e2]
        exact ⟨vy, H, I.tok _, r2, q vy hy⟩
      · rw [e1] at q
        rw [e2]
        exact ⟨vv, H, I.tok _, e3, q vv e4⟩
    | _ => cases ht
  | false =>
    obtain ⟨xs, px, hm⟩ := dct_k I hdc re nd (oneMake_f ho ht)
    obtain ⟨k, rfl, rfl⟩ := keyOk_leaf hn ht
    have hkey : (mixKind X.prog X.w).is k u1 = true := by
      cases k with
      | inl i => cases hk; obtain ⟨t, rfl⟩ := r1; exact keyIs_int i t
      | inr z => cases hk; obtain ⟨t, rfl⟩ := r1; exact keyIs_str z t
    refine call_meetsIn PySem.F.slot_dict_get hm.typeIs PySem.F.entry_dict_get (PySem.F.args_dict_get_3 _ _ _) (meets_dict_get_default (mixKind X.prog X.w) d hkey hdc.sys u2) ⟨_, hm.mapOf, ?_⟩
    rcases px.look (q := k) with ⟨e1, e2⟩ | ⟨w, vv, pp, e1, e2, e3, e4⟩
    · rw [e1] at q
      rw [e2]
      exact ⟨vy, H, I.tok _, r2, q vy hy⟩
    · rw [e1] at q
      rw [e2]
      exact ⟨vv, H, I.tok _, e3, q vv e4⟩
theorem RepL.two {d1 d2 : D} {xs : List V} (h : RepL Z F [d1, d2] xs) : ∃ v w, xs = [v, w] ∧ Rep Z F d1 v ∧ Rep Z F d2 w := by
  cases h with
  | cons h1 h2 =>
    cases h2 with
    | cons h3 h4 => cases h4; exact ⟨_, _, rfl, h1, h3⟩
theorem pe_get2V (hu : X.A.units + 70 < cLine) {apos cpos : Pos} (ho : PE X a (tE X cls exc W G C xa)) (ha : PA X (e :: es) (tA X cls exc W G C xs))
    (hbase : attributeBase a "get" X.env (eval a X.env) = eval a X.env := by rfl)
    (hfew : ((backTo cpos (starEach (e :: es) X.env)).all (fun x => !x.1) && (backToKw cpos (keywordEach [] X.env)).all (fun x => x.1.isSome)
      && decide ((e :: es).length + ([] : List Keyword).length + (if ([] : List Keyword).isEmpty then 0 else 1) < 30)) = true := by rfl)
    (hline : (apos.endLine == cpos.line) = true := by rfl) (hs : starEach (e :: es) X.env = (false, eval e X.env) :: starEach es X.env := by rfl) (hplain : (backTo cpos (starEach es X.env)).any (·.1) = false := by rfl) :
    PE X (.Call (.Attribute a "get" apos) (e :: es) [] cpos) (tE X cls exc W G C (.get2 xa xs)) := by
  refine (pe_mW PySem.F.plainAttrs_dict PySem.F.slot_dict_get PySem.F.type_dict_get (mt_get2V (cls := cls) (exc := exc) hu) ho ha hbase hfew hline hs hplain).cons fun σ H Q ⟨r, F, fp, R, g⟩ => ?_
  rw [evE] at g
  obtain ⟨r0, F0, fp0, R0, g0⟩ := step R (.refl ..) g
  refine ⟨r0, F0, fp0, R0, g0.mono fun x H1 ⟨va, r1, F1, fp1, f1, A1, g1⟩ => ?_⟩
  split at g1
  · rename_i hk
    refine ⟨?_, ?_⟩
    · unfold isDct at hk
      split at hk
      · rename_i kvs hd
        obtain ⟨d, o, es, ep, rfl, h1, _⟩ := A1.p.view A1.R hd
        exact .inr (.inr (.inl ⟨rfl, d, o, es, ep, rfl, h1⟩))
      · cases hk
    · obtain ⟨r2, F2, fp2, R2, g2⟩ := stepA A1.R A1.e g1
      refine ⟨r2, F2, fp2, R2, g2.mono fun ys H2 ⟨vs, r3, F3, fp3, f3, A3, g3⟩ => ?_⟩
      obtain ⟨⟨ds, r4⟩, ht, g4⟩ := g3.orBad
      obtain ⟨F4, R4, p4, e4, s4⟩ := take_vals A3 A1.e ht
      dsimp only at g4
      split at g4
      · rename_i kvs x' y' h1
        obtain ⟨n, hn, g5⟩ := g4.orBad
        split at g5
        · rename_i hm
          obtain ⟨vk, vy, rfl, q1, q2⟩ := p4.two
          have vx : VR (zx X cls exc) r4 σ F4 H2 fp3 x f1 va := keep_old A1.p A3 s4.2
          exact ⟨F4, kvs, x', y', n, vk, vy, R4.same, vx.view R4 h1, rfl, q1, q2, hn, hm, fun v hv => fro_now g5 e4 R4 hv⟩
        · exact g5.elim
      · exact g4.elim
  · exact g1.elim
end
end VL
end
section
/-! V16: changes of one's own. -/
namespace VL
open PySem PySem.Spec PyProof.Rows L2

section
variable {X : Cx} {cls : Clz} {exc : List (Addr × List Str)} {W : WX} {G : List Fd} {C : List D} {e a b c : Expr} {es : List Expr} {xa xb xc : Ex} {xs : Ar} {pos p : Pos} {f : Str}
variable {Z : Zx} {r r' r2 : Fr} {σ : L2.St} {F F' F2 H H' H2 : Hp} {fp fp' fp2 : Nat → List Addr} {s : Shared} {pins : List (Addr × Obj)}
theorem own_set {i : Nat} {d d' : D} (hi : r[i]? = some (some (true, d))) (a : Addr) : OwnS (r.set i (some (true, d'))) fp a ↔ OwnS r fp a := by
  have hil := slot_len hi
  constructor
  · rintro ⟨j, e, h1, h2⟩
    by_cases hj : i = j
    · subst hj
      exact ⟨i, d, hi, h2⟩
    · rw [List.getElem?_set_ne hj] at h1
      exact ⟨j, e, h1, h2⟩
  · rintro ⟨j, e, h1, h2⟩
    by_cases hj : i = j
    · subst hj
      exact ⟨i, d', List.getElem?_set_self hil, h2⟩
    · exact ⟨j, e, by rw [List.getElem?_set_ne hj]; exact h1, h2⟩
/-- what stands in a slot is changed in its place -/
theorem Rel.write (R : Rel Z r σ F H fp) {i : Nat} {d d' : D} {p : Addr} (hi : r[i]? = some (some (true, d))) (hσ : σ[i]? = some (some (.ref p))) (hk : ∀ a, a ∉ fp i → H' a = H a) (ho : OwnAt Z F H' p d' (fp i)) :
    Rel Z (r.set i (some (true, d'))) σ F H' fp ∧ Ext r fp F H (r.set i (some (true, d'))) fp F H' := by
  have hil := slot_len hi
  obtain ⟨p0, hp0, ho0, hn0⟩ := R.own i d hi
  rw [hσ] at hp0; cases hp0
  have sF : Same F H' := fun a o h => by
    have : a ∉ fp i := fun z => by rw [hn0 a z] at h; cases h
    rw [hk a this]
    exact R.same a o h
  refine ⟨⟨R.pin, sF, by rw [List.length_set]; exact R.len, fun j e h => ?_, fun j e h => ?_, fun j k e e' hjk h1 h2 => ?_⟩, ⟨Same.refl F, fun a o h1 h2 => (by rw [h2] at h1; cases h1), fun a o h1 h2 => ?_, fun a h => .inr ((own_set hi a).mp h)⟩⟩
  · by_cases hj : i = j
    · subst hj; rw [List.getElem?_set_self hil] at h; cases h
    · rw [List.getElem?_set_ne hj] at h
      exact R.fro j e h
  · by_cases hj : i = j
    · subst hj
      rw [List.getElem?_set_self hil] at h; cases h
      exact ⟨p, hσ, ho, hn0⟩
    · rw [List.getElem?_set_ne hj] at h
      obtain ⟨q, h1, h2, h3⟩ := R.own j e h
      exact ⟨q, h1, h2.mono (Same.refl F) fun a ha => hk a fun z => R.dis j i e d (fun z => hj z.symm) h hi a ha z, h3⟩
  · have own : ∀ {j : Nat} {e : D}, (r.set i (some (true, d')))[j]? = some (some (true, e)) → ∃ e', r[j]? = some (some (true, e')) := fun {j e} h => by
      by_cases hj : i = j
      · subst hj; exact ⟨d, hi⟩
      · rw [List.getElem?_set_ne hj] at h; exact ⟨e, h⟩
    obtain ⟨e1, q1⟩ := own h1
    obtain ⟨e2, q2⟩ := own h2
    exact R.dis j k e1 e2 hjk q1 q2
  · rw [hk a fun z => h2 ⟨i, d, hi, z⟩]
    exact h1
/-- a list of one's own, rewritten -/
theorem Rel.wlist (R : Rel Z r σ F H fp) {i : Nat} {ds ds' : List D} {p : Addr} {ys : List V} (hi : r[i]? = some (some (true, .lst ds))) (hσ : σ[i]? = some (some (.ref p))) (hz : ys.length ≤ sizeLine) (hr : RepL Z F ds' ys) :
    Rel Z (r.set i (some (true, .lst ds'))) σ F (upd H p (.lst ys)) fp ∧ Ext r fp F H (r.set i (some (true, .lst ds'))) fp F (upd H p (.lst ys)) := by
  obtain ⟨p0, hp0, ho0, hn0⟩ := R.own i _ hi
  rw [hσ] at hp0; cases hp0
  obtain ⟨hfp, _⟩ := ho0
  refine R.write hi hσ (fun a ha => upd_ne fun z => ha (by rw [hfp, z]; simp)) ⟨hfp, ys, upd_same, hz, hr⟩
def isLm : Mut → Bool
  | .update => false
  | _ => true
def rMut (Z : Zx) (m : Mut) : V → List V → Hp → VK → Prop := fun x xs H Q => ∃ F p ys ds es q, Same F H ∧ x = .ref p ∧ H p = some (.lst ys) ∧ RepL Z F ds ys ∧ RepL Z F es xs ∧ mutD m (.lst ds) es = some q ∧
  ∀ ds' ys' v, q.1 = .lst ds' → RepL Z F ds' ys' → ys'.length ≤ sizeLine → Rep Z F q.2 v → Q v (upd H p (.lst ys'))
theorem RepL.zero {xs : List V} (h : RepL Z F [] xs) : xs = [] := by cases h; rfl
theorem RepL.uno {d : D} {xs : List V} (h : RepL Z F [d] xs) : ∃ v, xs = [v] ∧ Rep Z F d v := by
  cases h with
  | cons h1 h2 => cases h2; exact ⟨_, rfl, h1⟩
theorem RepL.dropLast : ∀ {ds : List D} {vs : List V}, RepL Z F ds vs → RepL Z F ds.dropLast vs.dropLast
  | _, _, .nil => .nil
  | _, _, .cons _ .nil => .nil
  | _, _, .cons h (.cons h2 r) => by
    rw [List.dropLast_cons_cons, List.dropLast_cons_cons]
    exact .cons h (RepL.dropLast (.cons h2 r))
theorem mt_appendV : MtR X "list.append" (rMut (zx X cls exc) .append) := by
  intro pins s σ H x xs v us Q I rx rs ⟨F, p, ys, ds, es, q, e, hx, ha, hr, ht, hm, k⟩
  subst hx
  unfold mutD at hm
  split at hm <;> first | contradiction | skip
  · cases ‹D.lst ds = D.lst _›
    split at hm
    · rename_i hz
      cases hm
      obtain ⟨w, rfl, hw⟩ := ht.uno
      have hz2 : ys.length < sizeLine := by rw [← hr.length, ← lim_line]; exact hz
      exact mt_append pins s σ H _ _ v us Q I rx rs ⟨p, ys, w, rfl, rfl, ha, hz2, k _ _ _ rfl (hr.append (.one hw)) (by rw [List.length_append, List.length_singleton]; omega) .non⟩
    · cases hm
theorem mt_extendV : MtR X "list.extend" (rMut (zx X cls exc) .extend) := by
  intro pins s σ H x xs v us Q I rx rs ⟨F, p, ys, ds, es, q, e, hx, ha, hr, ht, hm, k⟩
  subst hx
  unfold mutD at hm
  split at hm <;> first | contradiction | skip
  · cases ‹D.lst ds = D.lst _›
    split at hm
    · rename_i hz
      cases hm
      obtain ⟨w, rfl, hw⟩ := ht.uno
      cases hw with
      | @lst _ zs _ h1 h2 =>
        have hz2 : ys.length + zs.length ≤ sizeLine := by rw [← hr.length, ← h2.length, ← lim_line]; exact hz
        exact mt_extend pins s σ H _ _ v us Q I rx rs ⟨p, _, ys, _, rfl, rfl, ha, e _ _ h1, hz2, k _ _ _ rfl (hr.append h2) (by rw [List.length_append]; exact hz2) .non⟩
    · cases hm
theorem mt_insertV : MtR X "list.insert" (rMut (zx X cls exc) .insert) := by
  intro pins s σ H x xs v us Q I rx rs ⟨F, p, ys, ds, es, q, e, hx, ha, hr, ht, hm, k⟩
  subst hx
  unfold mutD at hm
  split at hm <;> first | contradiction | skip
  · rename_i i y _ _
    cases ‹D.lst ds = D.lst _›
    split at hm
    · rename_i hz
      cases hm
      obtain ⟨w0, w, rfl, hw0, hw⟩ := ht.two
      cases hw0
      have hz2 : ys.length < sizeLine := by rw [← hr.length, ← lim_line]; exact hz.2.2
      have hz3 : i ≤ 16777216 := by
        have h1 := hz.2.1
        have h2 : ds.length < 16777216 := hz.2.2
        omega
      refine mt_insert pins s σ H _ _ v us Q I rx rs ⟨p, ys, i, w, rfl, rfl, ha, hz2, hz.1, by omega, ?_⟩
      rw [List.append_assoc]
      refine k _ _ _ rfl ((hr.take _).append (.cons hw (hr.drop _))) ?_ .non
      simp only [List.length_append, List.length_take, List.length_drop, List.length_cons, List.length_nil]
      omega
    · cases hm
theorem mt_popV : MtR X "list.pop" (rMut (zx X cls exc) .pop) := by
  intro pins s σ H x xs v us Q I rx rs ⟨F, p, ys, ds, es, q, e, hx, ha, hr, ht, hm, k⟩
  subst hx
  unfold mutD at hm
  split at hm <;> first | contradiction | skip
  · cases ‹D.lst ds = D.lst _›
    split at hm
    · rename_i y hy
      cases hm
      cases ht
      rw [List.getLast?_eq_getElem?] at hy
      obtain ⟨w, h1, h2⟩ := hr.get hy
      rw [hr.length] at h1
      exact mt_pop pins s σ H _ _ v us Q I rx rs ⟨p, ys, w, rfl, rfl, ha, h1, k _ _ _ rfl hr.dropLast (by rw [List.length_dropLast]; have := (I.lstM ha).1; omega) h2⟩
    · cases hm
theorem mt_popiV : MtR X "list.pop" (rMut (zx X cls exc) .popi) := by
  intro pins s σ H x xs v us Q I rx rs ⟨F, p, ys, ds, es, q, e, hx, ha, hr, ht, hm, k⟩
  subst hx
  unfold mutD at hm
  split at hm <;> first | contradiction | skip
  · rename_i i _ _
    cases ‹D.lst ds = D.lst _›
    split at hm
    · rename_i hz
      obtain ⟨y, hy, hq⟩ := Option.map_eq_some_iff.mp hm
      subst hq
      obtain ⟨w0, rfl, hw0⟩ := ht.uno
      cases hw0
      obtain ⟨w, h1, h2⟩ := hr.get hy
      have hb := (I.lstM ha).1
      rw [sizeLine_eq] at hb
      have hl := hr.length
      have ix : seqIndex? i ys.length = some i.toNat := by
        unfold seqIndex?
        have e1 : ¬ i < 0 := by omega
        simp only [e1, if_false]
        rw [if_pos (by rw [Bool.and_eq_true, decide_eq_true_eq, decide_eq_true_eq]; omega)]
      exact mt_popAt pins s σ H _ _ v us Q I rx rs ⟨p, ys, i, i.toNat, w, rfl, rfl, ha, by omega, by omega, ix, h1, k _ _ _ rfl (hr.eraseIdx _) (by have := len_erase ys i.toNat; rw [sizeLine_eq]; omega) h2⟩
    · cases hm
theorem mt_reverseV : MtR X "list.reverse" (rMut (zx X cls exc) .reverse) := by
  intro pins s σ H x xs v us Q I rx rs ⟨F, p, ys, ds, es, q, e, hx, ha, hr, ht, hm, k⟩
  subst hx
  unfold mutD at hm
  split at hm <;> first | contradiction | skip
  · cases ‹D.lst ds = D.lst _›
    cases hm
    cases ht
    exact mt_reverse pins s σ H _ _ v us Q I rx rs ⟨p, ys, rfl, rfl, ha, k _ _ _ rfl hr.rev (by rw [List.length_reverse]; exact (I.lstM ha).1) .non⟩
theorem mutD_lst {m : Mut} {ds : List D} {es : List D} {q : D × D} (h : mutD m (.lst ds) es = some q) : ∃ ds', q.1 = .lst ds' := by
  unfold mutD at h
  split at h
  · split at h <;> cases h; exact ⟨_, rfl⟩
  · split at h <;> cases h; exact ⟨_, rfl⟩
  · split at h <;> cases h; exact ⟨_, rfl⟩
  · split at h <;> cases h; exact ⟨_, rfl⟩
  · split at h
    · obtain ⟨_, _, h⟩ := Option.map_eq_some_iff.mp h
      subst h; exact ⟨_, rfl⟩
    · cases h
  · contradiction
  · cases h; exact ⟨_, rfl⟩
  · cases h
/-- the end of a change -/
theorem mut_end {m : Mut} {i : Nat} {Q : VK} {b0 b1 : Bs} {x : V} {p : Addr} {ws : List V} {vs : List Vl} {r1 r4 : Fr} {fr : List Addr} {es : List D} (hm : isLm m = true) (A : Aft (Z := Z) (σ := σ) (PVls Z σ) b0 b1 ws H vs r1 F fp fr) (e : Ext b0.r b0.fp b0.F b0.H b1.r b1.fp b1.F b1.H)
    (t : takeL vs r1 = some (es, r4)) (hσ : σ[i]? = some (some x)) (hx : x = .ref p)
    (g : GdG Z σ (PVl Z σ) b0 W Q (match r4[i]? with
      | some (some (true, d)) => orBad (mutD m d es) fun q => .ok (.fro q.2) (r4.set i (some (true, q.1)))
      | _ => .bad)) : rMut Z m x ws H Q := by
  subst hx
  obtain ⟨F4, R4, p4, e4, s4⟩ := take_vals A e t
  split at g
  · rename_i d hi
    obtain ⟨q, hq, g1⟩ := g.orBad
    obtain ⟨p0, hp0, ho0, hn0⟩ := R4.own i d hi
    rw [hσ] at hp0; cases hp0
    cases d with
    | lst ds =>
      obtain ⟨hfp, zs, h1, hz, h2⟩ := id ho0
      refine ⟨F4, p, zs, ds, es, q, R4.same, rfl, h1, h2, p4, hq, fun ds' ys' v e1 hr hz' hv => ?_⟩
      obtain ⟨R5, x5⟩ := R4.wlist hi hσ hz' hr
      rw [e1] at g1
      exact g1 v [] F4 _ fp (e4.trans x5) R5 ⟨rfl, hv⟩ fun _ z => nomatch z
    | dct kvs =>
      exfalso
      cases m <;> first | exact absurd hm (by decide) | (unfold mutD at hq; split at hq <;> first | contradiction | cases hq)
    | obj c ds =>
      exfalso
      unfold mutD at hq
      split at hq <;> first | contradiction | cases hq
    | rng gp st cells ix =>
      exfalso
      unfold mutD at hq
      split at hq <;> first | contradiction | cases hq
    | _ => exact ho0.elim
  · exact g.elim
theorem mutK_lst {m : Mut} {i : Nat} (hm : isLm m = true) (h : mutK m r[i]? = true) : ∃ ds, r[i]? = some (some (true, .lst ds)) := by
  unfold mutK at h
  split at h
  · cases hm
  · cases h
  · rename_i ds _ hd
    exact ⟨ds, hd⟩
  · cases h
theorem pe_mutV {m : Mut} {id : String} {name : Str} {i : Nat} {x : Str} {pn apos cpos : Pos} (hl : isLm m = true) (slot : Slot "list" name id) (hty : typeOf (.builtin id) = pure (.type "method_descriptor")) (hm : MtR X id (rMut (zx X cls exc) m))
    (hN : X.N[i]? = some x) (hv : Vis X.env.scope x) (ha : PA X (e :: es) (tA X cls exc W G C xs)) (hd : (x == ("__debug__" : Str)) = false := by decide) (hcd : (x == ("__classdict__" : Str)) = false := by decide)
    (hbase : attributeBase (.Name x pn) name X.env (eval (.Name x pn) X.env) = eval (.Name x pn) X.env := by rfl)
    (hfew : ((backTo cpos (starEach (e :: es) X.env)).all (fun x => !x.1) && (backToKw cpos (keywordEach [] X.env)).all (fun x => x.1.isSome)
      && decide ((e :: es).length + ([] : List Keyword).length + (if ([] : List Keyword).isEmpty then 0 else 1) < 30)) = true := by rfl)
    (hline : (apos.endLine == cpos.line) = true := by rfl) (hs : starEach (e :: es) X.env = (false, eval e X.env) :: starEach es X.env := by rfl) (hplain : (backTo cpos (starEach es X.env)).any (·.1) = false := by rfl) :
    PE X (.Call (.Attribute (.Name x pn) name apos) (e :: es) [] cpos) (tE X cls exc W G C (.mut m i xs)) := by
  refine (pe_bm PySem.F.plainAttrs_list slot hty hm (pe_var hN hv hd hcd) ha hbase hfew hline hs hplain).cons fun σ H Q ⟨r, F, fp, R, g⟩ => ?_
  rw [evE] at g
  split at g
  · rename_i hk
    obtain ⟨ds, hi⟩ := mutK_lst hl hk
    obtain ⟨p, hσ, ⟨hfp, ys, hH, hz, hr⟩, hn⟩ := R.own i _ hi
    refine ⟨.ref p, hσ, .inl ⟨rfl, ys, .of hH⟩, ?_⟩
    obtain ⟨r0, F0, fp0, R0, g0⟩ := stepA R (.refl ..) g
    refine ⟨r0, F0, fp0, R0, g0.mono fun ws H1 ⟨vs, r1, F1, fp1, f1, A1, g1⟩ => ?_⟩
    obtain ⟨⟨es', r4⟩, ht, g4⟩ := g1.orBad
    exact mut_end hl A1 (.refl ..) ht hσ rfl g4
  · exact g.elim
theorem pe_mut0 {m : Mut} {id : String} {name : Str} {i : Nat} {x : Str} {pn apos cpos : Pos} (hl : isLm m = true) (slot : Slot "list" name id) (hty : typeOf (.builtin id) = pure (.type "method_descriptor")) (hm : MtR X id (rMut (zx X cls exc) m))
    (hN : X.N[i]? = some x) (hv : Vis X.env.scope x) (hd : (x == ("__debug__" : Str)) = false := by decide) (hcd : (x == ("__classdict__" : Str)) = false := by decide)
    (hbase : attributeBase (.Name x pn) name X.env (eval (.Name x pn) X.env) = eval (.Name x pn) X.env := by rfl) (hline : (apos.endLine == cpos.line) = true := by rfl) :
    PE X (.Call (.Attribute (.Name x pn) name apos) [] [] cpos) (tE X cls exc W G C (.mut m i .nil)) := by
  refine (pe_bm0 PySem.F.plainAttrs_list slot hty hm (pe_var hN hv hd hcd) hbase hline).cons fun σ H Q ⟨r, F, fp, R, g⟩ => ?_
  rw [evE] at g
  split at g
  · rename_i hk
    obtain ⟨ds, hi⟩ := mutK_lst hl hk
    obtain ⟨p, hσ, ⟨hfp, ys, hH, hz, hr⟩, hn⟩ := R.own i _ hi
    refine ⟨.ref p, hσ, .inl ⟨rfl, ys, .of hH⟩, ?_⟩
    have A1 : Aft (Z := zx X cls exc) (σ := σ) (PVls (zx X cls exc) σ) ⟨r, fp, F, H⟩ ⟨r, fp, F, H⟩ [] H [] r F fp [] := ⟨.refl .., .refl .., R, rfl, fun _ z => nomatch z⟩
    have g1 : GdG (zx X cls exc) σ (PVl (zx X cls exc) σ) ⟨r, fp, F, H⟩ W Q (orBad (takeL [] r) fun p => match p.2[i]? with
      | some (some (true, d)) => orBad (mutD m d p.1) fun q => .ok (.fro q.2) (p.2.set i (some (true, q.1)))
      | _ => .bad) := g
    obtain ⟨⟨es', r4⟩, ht, g4⟩ := g1.orBad
    exact mut_end hl A1 (.refl ..) ht hσ rfl g4
  · exact g.elim
end
end VL
end
section
/-! V17: tests; statements. -/
namespace VL
open PySem PySem.Spec PyProof.Rows L2

section
variable {X : Cx} {cls : Clz} {exc : List (Addr × List Str)} {W : WX} {G : List Fd} {C : List D} {e a b c : Expr} {es : List Expr} {xa xb xc x : Ex} {xs : Ar} {pos p : Pos} {f : Str}
variable {Z : Zx} {r r' r2 : Fr} {σ σ' : L2.St} {F F' F2 H H' H2 : Hp} {fp fp' fp2 : Nat → List Addr} {s : Shared} {pins : List (Addr × Obj)}
/-! ### tests -/
theorem pt_notV (ha : PT X a (tB (tE X cls exc W G C xa))) : PT X (.UnaryOp .Not a pos) (tB (tE X cls exc W G C (.not xa))) := by
  refine (pt_not ha).cons fun σ H Q ⟨r, F, fp, R, g⟩ => ?_
  rw [evE] at g
  obtain ⟨r0, F0, fp0, R0, g0⟩ := step R (.refl ..) g
  refine ⟨r0, F0, fp0, R0, g0.mono fun x H1 ⟨va, r1, F1, fp1, f1, A1, g1⟩ => ?_⟩
  split at g1
  · rename_i t ht
    obtain ⟨k, e, q⟩ := fro_now g1 A1.e A1.R (.bl _)
    cases e
    exact ⟨t, isTrueV_bl A1.R A1.p ht, q⟩
  · exact g1.elim
theorem pw_conV {k : Bool} {op : BoolOp} {rest : List Expr} (ho : op = if k then .And else .Or) (ha : PT X a (tB (tE X cls exc W G C xa))) (hb : PW X (.BoolOp op (b :: rest) pos) (tB (tE X cls exc W G C xb))) : PW X (.BoolOp op (a :: b :: rest) pos) (tB (tE X cls exc W G C (.con k xa xb))) := by
  cases k with
  | true =>
    subst ho
    refine ⟨fun wh pins s σ H Q I ⟨r, F, fp, R, g⟩ => (pw_and ha hb).run wh pins s σ H Q I ?_⟩
    rw [evE] at g
    obtain ⟨r0, F0, fp0, R0, g0⟩ := step R (.refl ..) g
    refine ⟨r0, F0, fp0, R0, g0.mono fun x H1 ⟨va, r1, F1, fp1, f1, A1, g1⟩ => ?_⟩
    split at g1
    · rename_i t ht
      refine ⟨t, isTrueV_bl A1.R A1.p ht, ?_⟩
      cases t with
      | true =>
        rw [if_pos rfl] at g1
        exact iteT ⟨r1, F1, fp1, A1.R, g1.shift (b1 := ⟨r1, fp1, F1, H1⟩) A1.e⟩
      | false =>
        rw [if_neg (by decide)] at g1
        obtain ⟨k, e, q⟩ := fro_now g1 A1.e A1.R (.bl false)
        cases e
        exact iteF q
    · exact g1.elim
  | false =>
    subst ho
    refine ⟨fun wh pins s σ H Q I ⟨r, F, fp, R, g⟩ => (pw_or ha hb).run wh pins s σ H Q I ?_⟩
    rw [evE] at g
    obtain ⟨r0, F0, fp0, R0, g0⟩ := step R (.refl ..) g
    refine ⟨r0, F0, fp0, R0, g0.mono fun x H1 ⟨va, r1, F1, fp1, f1, A1, g1⟩ => ?_⟩
    split at g1
    · rename_i t ht
      refine ⟨t, isTrueV_bl A1.R A1.p ht, ?_⟩
      cases t with
      | false =>
        rw [if_pos rfl] at g1
        exact iteF ⟨r1, F1, fp1, A1.R, g1.shift (b1 := ⟨r1, fp1, F1, H1⟩) A1.e⟩
      | true =>
        rw [if_neg (by decide)] at g1
        obtain ⟨k, e, q⟩ := fro_now g1 A1.e A1.R (.bl true)
        cases e
        exact iteT q
    · exact g1.elim

/-! ### what a statement is worth -/
/-- a value handed back -/
def RtV (Z : Zx) (F H : Hp) (v : V) (fr : List Addr) (o : Bool) (d : D) : Prop := if o then ∃ p, v = .ref p ∧ OwnAt Z F H p d fr ∧ ∀ a ∈ fr, F a = none else fr = [] ∧ Rep Z F d v
def GdS (Z : Zx) (b : Bs) (W : WX) (D : Ends) : Out → Prop
  | .nx r' => ∀ σ' F' H' fp', Ext b.r b.fp b.F b.H r' fp' F' H' → Rel Z r' σ' F' H' fp' → D.nx σ' H'
  | .rt o d r' => ∀ v fr σ' F' H' fp', Ext b.r b.fp b.F b.H r' fp' F' H' → Rel Z r' σ' F' H' fp' → RtV Z F' H' v fr o d → (∀ a ∈ fr, (b.H a = none ∨ OwnS b.r b.fp a) ∧ ¬ OwnS r' fp' a) → D.rt v H'
  | .exc c fs r' => ∀ cls d σ' F' H' fp', Ext b.r b.fp b.F b.H r' fp' F' H' → Rel Z r' σ' F' H' fp' → ExR Z c fs cls d F' H' → W cls d σ' H'
  | .bad => False
def tS (Z : Zx) (W : WX) (m : Fr → Out) : TS := fun D σ H => ∃ r F fp, Rel Z r σ F H fp ∧ GdS Z ⟨r, fp, F, H⟩ W D (m r)
abbrev tSt (X : Cx) (cls : Clz) (exc : List (Addr × List Str)) (W : WX) (G : List Fd) (C : List D) (x : VL.St) : TS := tS (zx X cls exc) W (evS G C x)
abbrev tSs (X : Cx) (cls : Clz) (exc : List (Addr × List Str)) (W : WX) (G : List Fd) (C : List D) (x : Sts) : TS := tS (zx X cls exc) W (evSs G C x)
theorem GdS.shift {b b1 : Bs} {D : Ends} {m : Out} (g : GdS Z b W D m) (e : Ext b.r b.fp b.F b.H b1.r b1.fp b1.F b1.H) : GdS Z b1 W D m := by
  cases m with
  | nx r' => exact fun σ' F' H' fp' e1 R' => g σ' F' H' fp' (e.trans e1) R'
  | rt o d r' => exact fun v fr σ' F' H' fp' e1 R' p f => g v fr σ' F' H' fp' (e.trans e1) R' p fun c hc => ⟨e.back (f c hc).1, (f c hc).2⟩
  | exc c fs r' => exact fun cl d σ' F' H' fp' e1 R' x => g cl d σ' F' H' fp' (e.trans e1) R' x
  | bad => exact g
/-- an expression ahead -/
theorem GdS.out {α β : Type} {P : PrG α β} {b b1 : Bs} {D : Ends} {m : Res α} {k : α → Fr → Out} (g : GdS Z b W D (m.out k)) (e : Ext b.r b.fp b.F b.H b1.r b1.fp b1.F b1.H) :
    GdG Z σ P b1 W (fun y H' => ∃ x r' F' fp' fr, Aft (Z := Z) (σ := σ) P b b1 y H' x r' F' fp' fr ∧ GdS Z b W D (k x r')) m := by
  cases m with
  | ok x r' => exact fun y fr F' H' fp' e1 R p f => ⟨x, r', F', fp', fr, ⟨e.trans e1, e1, R, p, f⟩, g⟩
  | exc c fs r' => exact fun cls d F' H' fp' e1 R x => g cls d σ F' H' fp' (e.trans e1) R x
  | bad => exact g
theorem stepS {b : Bs} {D : Ends} {m : Fr → Res Vl} {k : Vl → Fr → Out} (R : Rel Z r σ F H fp) (e : Ext b.r b.fp b.F b.H r fp F H) (g : GdS Z b W D ((m r).out k)) :
    tV Z W m σ H (fun y H' => ∃ x r' F' fp' fr, Aft (Z := Z) (σ := σ) (PVl Z σ) b ⟨r, fp, F, H⟩ y H' x r' F' fp' fr ∧ GdS Z b W D (k x r')) := ⟨r, F, fp, R, g.out (b1 := ⟨r, fp, F, H⟩) e⟩
theorem stepSA {b : Bs} {D : Ends} {m : Fr → Res (List Vl)} {k : List Vl → Fr → Out} (R : Rel Z r σ F H fp) (e : Ext b.r b.fp b.F b.H r fp F H) (g : GdS Z b W D ((m r).out k)) :
    tVA Z W m σ H (fun y H' => ∃ x r' F' fp' fr, Aft (Z := Z) (σ := σ) (PVls Z σ) b ⟨r, fp, F, H⟩ y H' x r' F' fp' fr ∧ GdS Z b W D (k x r')) := ⟨r, F, fp, R, g.out (b1 := ⟨r, fp, F, H⟩) e⟩
theorem GdS.orOut {γ : Type} {b : Bs} {D : Ends} {o : Option γ} {k : γ → Out} (g : GdS Z b W D (orOut o k)) : ∃ x, o = some x ∧ GdS Z b W D (k x) := by
  cases o with
  | none => exact g.elim
  | some x => exact ⟨x, rfl, g⟩
theorem GdS.seq {b : Bs} {D : Ends} {o : Out} {k : Fr → Out} (g : GdS Z b W D (o.seq k)) : GdS Z b W { D with nx := tS Z W k D } o := by
  cases o with
  | nx r' => exact fun σ' F' H' fp' e R => ⟨r', F', fp', R, GdS.shift (b1 := ⟨r', fp', F', H'⟩) g e⟩
  | rt o d r' => exact g
  | exc c fs r' => exact g
  | bad => exact g
theorem GdS.nx {b : Bs} {D : Ends} (g : GdS Z b W D (.nx r)) (e : Ext b.r b.fp b.F b.H r fp F H) (R : Rel Z r σ F H fp) : D.nx σ H := g σ F H fp e R

/-! ### rules -/
variable {st : Stmt} {sts rest : List Stmt} {u : VL.St} {us us2 : Sts}
theorem pss_nilV : PSs X [] (tSs X cls exc W G C .nil) := by
  refine pss_nil.cons fun D σ H ⟨r, F, fp, R, g⟩ => ?_
  rw [evSs] at g
  exact g.nx (.refl ..) R
theorem pss_consV (h1 : PS X st (tSt X cls exc W G C u)) (h2 : PSs X rest (tSs X cls exc W G C us)) : PSs X (st :: rest) (tSs X cls exc W G C (.cons u us)) := by
  refine (pss_cons h1 h2).cons fun D σ H ⟨r, F, fp, R, g⟩ => ?_
  rw [evSs] at g
  exact ⟨r, F, fp, R, g.seq⟩
theorem ps_passV : PS X (.Pass pos) (tSt X cls exc W G C .pass) := by
  refine ps_pass.cons fun D σ H ⟨r, F, fp, R, g⟩ => ?_
  rw [evS] at g
  exact g.nx (.refl ..) R
theorem ps_expV (he : PE X e (tE X cls exc W G C x)) (hs : swapsWith e none pos.line X.env = pure false := by rfl) : PS X (.Expr e pos) (tSt X cls exc W G C (.exp x)) := by
  refine (ps_expr he hs).cons fun D σ H ⟨r, F, fp, R, g⟩ => ?_
  rw [evS] at g
  obtain ⟨r0, F0, fp0, R0, g0⟩ := stepS R (.refl ..) g
  exact ⟨r0, F0, fp0, R0, g0.mono fun y H1 ⟨va, r1, F1, fp1, f1, A1, g1⟩ => g1.nx A1.e A1.R⟩
theorem ps_ifV (hc : PT X c (tB (tE X cls exc W G C xc))) (ha : PSs X sts (tSs X cls exc W G C us)) (hb : PSs X rest (tSs X cls exc W G C us2)) : PS X (.If c sts rest pos) (tSt X cls exc W G C (.ife xc us us2)) := by
  refine (ps_if hc ha hb).cons fun D σ H ⟨r, F, fp, R, g⟩ => ?_
  rw [evS] at g
  obtain ⟨r0, F0, fp0, R0, g0⟩ := stepS R (.refl ..) g
  refine ⟨r0, F0, fp0, R0, g0.mono fun y H1 ⟨va, r1, F1, fp1, f1, A1, g1⟩ => ?_⟩
  split at g1
  · rename_i ht
    exact ⟨true, isTrueV_bl A1.R A1.p ht, iteT ⟨r1, F1, fp1, A1.R, g1.shift (b1 := ⟨r1, fp1, F1, H1⟩) A1.e⟩⟩
  · rename_i ht
    exact ⟨false, isTrueV_bl A1.R A1.p ht, iteF ⟨r1, F1, fp1, A1.R, g1.shift (b1 := ⟨r1, fp1, F1, H1⟩) A1.e⟩⟩
  · exact g1.elim
/-- return -/
theorem ret_end {b b1 : Bs} {D : Ends} {y : V} {v : Vl} {r1 : Fr} {fr : List Addr} (A1 : Aft (Z := Z) (σ := σ) (PVl Z σ) b b1 y H v r1 F fp fr) (e : Ext b.r b.fp b.F b.H b1.r b1.fp b1.F b1.H)
    (g : GdS Z b W D (retO v r1)) : D.rt y H := by
  cases v with
  | fro d =>
    obtain ⟨rfl, h⟩ := A1.p
    exact g y [] σ F H fp A1.e A1.R ⟨rfl, h⟩ fun _ z => nomatch z
  | own d =>
    obtain ⟨p, rfl, ho, hn⟩ := A1.p
    exact g _ fr σ F H fp A1.e A1.R ⟨p, rfl, ho, fun a ha => (hn a ha).1⟩ fun a ha => ⟨A1.f e a ha, (hn a ha).2⟩
  | var i =>
    unfold retO at g
    dsimp only at g
    obtain ⟨rfl, hσ⟩ := A1.p
    split at g
    · rename_i d hi
      obtain ⟨p, hp, ho, hn⟩ := A1.R.own i d hi
      rw [hσ] at hp; cases hp
      have sub : ∀ a, OwnS (r1.set i none) fp a → OwnS r1 fp a := fun a h => OwnS.set_sub (fun _ q => by cases q) h
      refine g _ (fp i) σ F H fp ⟨A1.e.sF, A1.e.new, A1.e.keep, fun a h => A1.e.shr a (sub a h)⟩ (A1.R.drop i) ⟨p, rfl, ho, hn⟩ fun a ha => ⟨A1.e.shr a ⟨i, d, hi, ha⟩, fun z => ?_⟩
      obtain ⟨j, e', hj, ej, haj⟩ := OwnS.unset (fun _ q => by cases q) z
      exact A1.R.dis j i e' d hj ej hi a haj ha
    · rename_i d hi
      obtain ⟨v', e1, h⟩ := A1.R.fro i d hi
      rw [hσ] at e1; cases e1
      exact g _ [] σ F H fp A1.e A1.R ⟨rfl, h⟩ fun _ z => nomatch z
    · exact g.elim
theorem ps_retV (he : PE X e (tE X cls exc W G C x)) : PS X (.Return (some e) pos) (tSt X cls exc W G C (.ret x)) := by
  refine (ps_ret he).cons fun D σ H ⟨r, F, fp, R, g⟩ => ?_
  rw [evS] at g
  obtain ⟨r0, F0, fp0, R0, g0⟩ := stepS R (.refl ..) g
  exact ⟨r0, F0, fp0, R0, g0.mono fun y H1 ⟨va, r1, F1, fp1, f1, A1, g1⟩ => ret_end A1 (.refl ..) g1⟩
/-- while -/
theorem ps_whlV (hp : PassesOwn (model X.prog X.w) X.A X.env X.xe) (hc : PT X c (tB (tE X cls exc W G C xc))) (hb : PSs X sts (tSs X cls exc W G C us)) : PS X (.While c sts [] pos) (tSt X cls exc W G C (.whl xc us)) := by
  refine (ps_while hp hc hb).cons fun D σ H ⟨r, F, fp, R, g⟩ => ?_
  rw [evS] at g
  have ne : whileC (fun r => evE G C xc r) (fun r => evSs G C us r) r ≠ .bad := fun z => by rw [z] at g; exact g
  obtain ⟨n0, h0⟩ := whileC_ends ne
  refine ⟨fun m σ' H' => ∃ r' F' fp' o, Rel (zx X cls exc) r' σ' F' H' fp' ∧ whl1 (fun r => evE G C xc r) (fun r => evSs G C us r) m r' = some o ∧ GdS (zx X cls exc) ⟨r', fp', F', H'⟩ W D o, ⟨n0, r, F, fp, _, R, h0, g⟩, ?_⟩
  rintro m σ1 H1 ⟨r1, F1, fp1, o, R1, h1, g1⟩
  cases m with
  | zero => cases h1
  | succ m =>
    rw [whl1] at h1
    refine ⟨r1, F1, fp1, R1, ?_⟩
    unfold stepW at h1
    dsimp only at h1
    cases hc1 : evE G C xc r1 with
    | bad =>
      rw [hc1] at h1
      cases h1
      exact g1.elim
    | exc k fs r2 =>
      rw [hc1] at h1
      cases h1
      exact fun cl d F' H' fp' e R' x => g1 cl d σ1 F' H' fp' e R' x
    | ok v r2 =>
      rw [hc1] at h1
      dsimp only at h1
      intro y fr F' H' fp' e R' p f
      cases ht : isTrueV r2 v with
      | none =>
        rw [ht] at h1
        cases h1
        exact g1.elim
      | some t =>
        rw [ht] at h1
        refine ⟨t, isTrueV_bl R' p ht, ?_⟩
        cases t with
        | false =>
          cases h1
          exact iteF (g1 σ1 F' H' fp' e R')
        | true =>
          refine iteT ⟨fun σ' H' => ∃ r' F' fp' o, Rel (zx X cls exc) r' σ' F' H' fp' ∧ whl1 (fun r => evE G C xc r) (fun r => evSs G C us r) m r' = some o ∧ GdS (zx X cls exc) ⟨r', fp', F', H'⟩ W D o, fun σ' H' h => ⟨m, Nat.lt_succ_self m, h⟩, r2, F', fp', R', ?_⟩
          dsimp only at h1
          cases hb1 : evSs G C us r2 with
          | nx r3 =>
            rw [hb1] at h1
            exact fun σ' F2 H2 fp2 e2 R2 => ⟨r3, F2, fp2, o, R2, h1, g1.shift (b1 := ⟨r3, fp2, F2, H2⟩) (e.trans e2)⟩
          | rt oo d r3 =>
            rw [hb1] at h1
            cases h1
            exact g1.shift (b1 := ⟨r2, fp', F', H'⟩) e
          | exc k fs r3 =>
            rw [hb1] at h1
            cases h1
            exact g1.shift (b1 := ⟨r2, fp', F', H'⟩) e
          | bad =>
            rw [hb1] at h1
            cases h1
            exact g1.elim
end
end VL
end
section
/-! V18: targets, assignments, stores. -/
namespace VL
open PySem PySem.Spec PyProof.Rows L2

section
variable {X : Cx} {cls : Clz} {exc : List (Addr × List Str)} {W : WX} {G : List Fd} {C : List D} {e a b c : Expr} {es : List Expr} {xa xb xc x : Ex} {xs : Ar} {pos p : Pos} {f : Str}
variable {Z : Zx} {r r' r2 : Fr} {σ σ' : L2.St} {F F' F2 H H' H2 : Hp} {fp fp' fp2 : Nat → List Addr} {s : Shared} {pins : List (Addr × Obj)}
/-! ### a slot is set -/
def setFp (fp : Nat → List Addr) (i : Nat) (fr : List Addr) : Nat → List Addr := fun j => if j = i then fr else fp j
theorem get_set_ne {i j : Nat} {x y : Option (Bool × D)} (h : (r.set i x)[j]? = some y) (hj : j ≠ i) : r[j]? = some y := by
  rw [List.getElem?_set_ne (Ne.symm hj)] at h; exact h
theorem get_set_eq {i : Nat} {x y : Option (Bool × D)} (h : (r.set i x)[i]? = some y) : x = y := by
  by_cases hl : i < r.length
  · rw [List.getElem?_set_self hl] at h; exact Option.some.inj h
  · rw [List.getElem?_eq_none (by rw [List.length_set]; omega)] at h; cases h
theorem Rel.setFro (R : Rel Z r σ F H fp) (i : Nat) (np : NoPin Z.cls i) {d : D} {v : V} (h : Rep Z F d v) : Rel Z (r.set i (some (false, d))) (σ.set i (some v)) F H fp := by
  refine ⟨R.pin.set np, R.same, by rw [List.length_set, List.length_set]; exact R.len, fun j e q => ?_, fun j e q => ?_, fun j k e e' hjk q1 q2 => ?_⟩
  · by_cases hj : j = i
    · subst hj
      have := get_set_eq q
      cases this
      have hl : j < r.length := by have := slot_len q; rwa [List.length_set] at this
      exact ⟨v, List.getElem?_set_self (by rw [← R.len]; exact hl), h⟩
    · obtain ⟨v', h1, h2⟩ := R.fro j e (get_set_ne q hj)
      exact ⟨v', by rw [List.getElem?_set_ne (Ne.symm hj)]; exact h1, h2⟩
  · by_cases hj : j = i
    · subst hj
      have := get_set_eq q
      cases this
    · obtain ⟨p, h1, h2⟩ := R.own j e (get_set_ne q hj)
      exact ⟨p, by rw [List.getElem?_set_ne (Ne.symm hj)]; exact h1, h2⟩
  · have n : ∀ {j : Nat} {e : D}, (r.set i (some (false, d)))[j]? = some (some (true, e)) → j ≠ i := fun {j e} q z => by
      subst z
      have := get_set_eq q
      cases this
    exact R.dis j k e e' hjk (get_set_ne q1 (n q1)) (get_set_ne q2 (n q2))
theorem Rel.setOwnP (R : Rel Z r σ F H fp) (i : Nat) {d : D} {p : Addr} {fr : List Addr} (pk : PinOk Z (σ.set i (some (.ref p)))) (h : OwnAt Z F H p d fr) (hn : ∀ a ∈ fr, F a = none ∧ ¬ OwnS r fp a) : Rel Z (r.set i (some (true, d))) (σ.set i (some (.ref p))) F H (setFp fp i fr) := by
  have fpi : setFp fp i fr i = fr := by unfold setFp; rw [if_pos rfl]
  have fpj : ∀ {j : Nat}, j ≠ i → setFp fp i fr j = fp j := fun {j} hj => by unfold setFp; rw [if_neg hj]
  refine ⟨pk, R.same, by rw [List.length_set, List.length_set]; exact R.len, fun j e q => ?_, fun j e q => ?_, fun j k e e' hjk q1 q2 => ?_⟩
  · by_cases hj : j = i
    · subst hj
      have := get_set_eq q
      cases this
    · obtain ⟨v', h1, h2⟩ := R.fro j e (get_set_ne q hj)
      exact ⟨v', by rw [List.getElem?_set_ne (Ne.symm hj)]; exact h1, h2⟩
  · by_cases hj : j = i
    · subst hj
      have := get_set_eq q
      cases this
      have hl : j < r.length := by have := slot_len q; rwa [List.length_set] at this
      rw [fpi]
      exact ⟨p, List.getElem?_set_self (by rw [← R.len]; exact hl), h, fun a ha => (hn a ha).1⟩
    · obtain ⟨p', h1, h2⟩ := R.own j e (get_set_ne q hj)
      rw [fpj hj]
      exact ⟨p', by rw [List.getElem?_set_ne (Ne.symm hj)]; exact h1, h2⟩
  · by_cases hj : j = i
    · subst hj
      rw [fpi, fpj (fun z => hjk z.symm)]
      exact fun a ha z => (hn a ha).2 ⟨k, e', get_set_ne q2 (fun z => hjk z.symm), z⟩
    · by_cases hk : k = i
      · subst hk
        rw [fpi, fpj hj]
        exact fun a ha z => (hn a z).2 ⟨j, e, get_set_ne q1 hj, ha⟩
      · rw [fpj hj, fpj hk]
        exact R.dis j k e e' hjk (get_set_ne q1 hj) (get_set_ne q2 hk)
theorem Rel.setOwn (R : Rel Z r σ F H fp) (i : Nat) (np : NoPin Z.cls i) {d : D} {p : Addr} {fr : List Addr} (h : OwnAt Z F H p d fr) (hn : ∀ a ∈ fr, F a = none ∧ ¬ OwnS r fp a) : Rel Z (r.set i (some (true, d))) (σ.set i (some (.ref p))) F H (setFp fp i fr) := R.setOwnP i (R.pin.set np) h hn
theorem own_ofSet {i : Nat} {d : D} {fr : List Addr} {a : Addr} (h : OwnS (r.set i (some (true, d))) (setFp fp i fr) a) : OwnS r fp a ∨ a ∈ fr := by
  obtain ⟨j, e, h1, h2⟩ := h
  by_cases hj : j = i
  · subst hj
    unfold setFp at h2
    rw [if_pos rfl] at h2
    exact .inr h2
  · unfold setFp at h2
    rw [if_neg hj] at h2
    exact .inl ⟨j, e, get_set_ne h1 hj, h2⟩
/-- a value into a slot -/
theorem put_ok {v : V} {fr : List Addr} {x : Vl} {i : Nat} (np : NoPin Z.cls i) (R : Rel Z r σ F H fp) (p : VR Z r σ F H fp v fr x) (h : x.put r i = some r') {b : Bs} (e : Ext b.r b.fp b.F b.H r fp F H) (hf : ∀ a ∈ fr, b.H a = none ∨ OwnS b.r b.fp a) :
    ∃ F' fp', Rel Z r' (σ.set i (some v)) F' H fp' ∧ Ext b.r b.fp b.F b.H r' fp' F' H := by
  cases x with
  | fro d =>
    cases h
    obtain ⟨rfl, hr⟩ := p
    exact ⟨F, fp, R.setFro i np hr, e.sF, e.new, e.keep, fun a z => e.shr a (OwnS.set_sub (fun _ q => by cases q) z)⟩
  | own d =>
    cases h
    obtain ⟨pp, rfl, ho, hn⟩ := p
    refine ⟨F, setFp fp i fr, R.setOwn i np ho hn, e.sF, e.new, e.keep, fun a z => ?_⟩
    rcases own_ofSet z with z | z
    · exact e.shr a z
    · exact hf a z
  | var j =>
    unfold Vl.put at h
    dsimp only at h
    split at h
    · rename_i b0 d hj
      split at h
      · rename_i hfz
        cases h
        have t : (Vl.var j).take r = some (d, r.set j (some (false, d))) := by
          unfold Vl.take
          dsimp only
          rw [hj]
          dsimp only
          rw [if_pos hfz]
        obtain ⟨F', R', hr, g, hl⟩ := Vl.take_ok R p t
        have e2 := g.ext (fr := fr) (fun a ha => by rw [p.1] at ha; exact nomatch ha) e
        exact ⟨F', fp, R'.setFro i np hr, e2.sF, e2.new, e2.keep, fun a z => e2.shr a (OwnS.set_sub (fun _ q => by cases q) z)⟩
      · cases h
    · cases h

/-! ### targets -/
mutual
inductive TgOk (X : Cx) (cls : Clz) : Expr → Tg → Prop
  | nm {i : Nat} {x : Str} {pos : Pos} (hN : X.N.Nodup) (hi : X.N[i]? = some x) (hx : Loc X.env.scope x) (hf : X.fn x = true ∨ X.env.scope.names.lookup x = some .local) (np : NoPin cls i := by rfl) : TgOk X cls (.Name x pos) (.nm i)
  | tp {es : List Expr} {k : Nat} {pos : Pos} {ts : Tgs} (hc : X.calm = true) (h : TgsOk X cls es ts) (hst : (assignEach es X.env).findIdx? (·.1) = none) (hn : (assignEach es X.env).length = es.length) : TgOk X cls (.Tuple es k pos) (.tp ts)
inductive TgsOk (X : Cx) (cls : Clz) : List Expr → Tgs → Prop
  | nil : TgsOk X cls [] .nil
  | cons {e : Expr} {es : List Expr} {t : Tg} {ts : Tgs} (h1 : TgOk X cls e t) (h2 : TgsOk X cls es ts) (hs : (assignEach (e :: es) X.env).map (·.2) = assign e X.env :: (assignEach es X.env).map (·.2)) : TgsOk X cls (e :: es) (.cons t ts)
end
mutual
/-- a target's slots -/
def tgS : Tg → List Nat
  | .nm i => [i]
  | .tp ts => tgsS ts
def tgsS : Tgs → List Nat
  | .nil => []
  | .cons t ts => tgS t ++ tgsS ts
end
/-- frozen data into a target: what is wanted behind -/
def gT (Z : Zx) (t : Tg) : TG := fun v σ H Q => ∃ r F fp d r', Rel Z r σ F H fp ∧ Rep Z F d v ∧ putT t d r = some r' ∧ ∀ σ', Rel Z r' σ' F H fp → (∀ a, OwnS r' fp a → OwnS r fp a) → (∀ j, j ∉ tgS t → σ'[j]? = σ[j]?) → Q σ' H
def gTs (Z : Zx) (t : Tgs) : TGs := fun vs σ H Q => ∃ r F fp ds r', Rel Z r σ F H fp ∧ RepL Z F ds vs ∧ putTs t ds r = some r' ∧ ∀ σ', Rel Z r' σ' F H fp → (∀ a, OwnS r' fp a → OwnS r fp a) → (∀ j, j ∉ tgsS t → σ'[j]? = σ[j]?) → Q σ' H
/-- (a, b, ..) = a tuple or a list of that length -/
def gSeq (K : PySem.W.Frag) (n : Nat) (t : TGs) : TG := fun v σ H Q => ∃ a xs, v = .ref a ∧ (SqT K H a xs ∨ SqL K H a xs) ∧ xs.length = n ∧ t xs σ H Q
theorem pg_seq {es : List Expr} {k : Nat} {t : TGs} {n : Nat} (hc : X.calm = true) (h : PGs X es t)
    (hn : (assignEach es X.env).length = n) (hst : (assignEach es X.env).findIdx? (·.1) = none) : PG X (.Tuple es k pos) (gSeq X.K n t) := by
  refine ⟨fun pins s σ H v u Q I r ⟨a, xs, e1, hq, hl, hw⟩ => ?_⟩
  rcases hq with hq | hq
  · exact (pg_tup hc h hn hst).run pins s σ H v u Q I r ⟨a, xs, e1, hq, hl, hw⟩
  · exact (pg_unl hc h hn hst).run pins s σ H v u Q I r ⟨a, xs, e1, hq, hl, hw⟩
theorem _root_.L2.PG.cons {X : Cx} {e : Expr} {t t' : TG} (h : PG X e t) (c : ∀ v σ H Q, t' v σ H Q → t v σ H Q) : PG X e t' := ⟨fun pins s σ H v u Q I r q => h.run pins s σ H v u Q I r (c v σ H Q q)⟩
theorem _root_.L2.PGs.cons {X : Cx} {e : List Expr} {t t' : TGs} (h : PGs X e t) (c : ∀ v σ H Q, t' v σ H Q → t v σ H Q) : PGs X e t' := ⟨fun pins s σ H v u Q I r q => h.run pins s σ H v u Q I r (c v σ H Q q)⟩
theorem putTs_len : ∀ {ts : Tgs} {es : List Expr} {ds : List D} {r r' : Fr}, TgsOk X cls es ts → putTs ts ds r = some r' → ds.length = es.length
  | .nil, [], [], _, _, _, _ => rfl
  | .nil, [], _ :: _, _, _, _, h => by unfold putTs at h; cases h
  | .cons t ts, e :: es, [], _, _, _, h => by unfold putTs at h; cases h
  | .cons t ts, e :: es, d :: ds, r, r', .cons _ h2 _, h => by
    unfold putTs at h
    split at h
    · rw [List.length_cons, List.length_cons, putTs_len h2 h]
    · cases h
mutual
theorem pg_T : ∀ {e : Expr} {t : Tg}, TgOk X cls e t → PG X e (gT (zx X cls exc) t)
  | _, _, .nm (i := i) hN hi hx hf np => (pg_name hN hi hx hf).cons fun v σ H Q ⟨r, F, fp, d, r', R, h, hp, q⟩ => by
    unfold putT at hp
    cases hp
    exact q _ (R.setFro i np h) (fun a z => OwnS.set_sub (fun _ q => by cases q) z) fun j hj => List.getElem?_set_ne fun z => hj (by unfold tgS; simp [z])
  | _, _, .tp hc h hst hn => (pg_seq hc (pgs_T h) hn hst).cons fun v σ H Q ⟨r, F, fp, d, r', R, hd, hp, q⟩ => by
    cases d with
    | tup ds =>
      unfold putT at hp
      obtain ⟨a, xs, rfl, h1, h2⟩ := (hd.view R.same).tupE R.same
      exact ⟨a, xs, rfl, .inl h1, by rw [← h2.length]; exact putTs_len h hp, r, F, fp, ds, r', R, h2, hp, fun σ' R' o' j' => q σ' R' o' j'⟩
    | _ => unfold putT at hp; cases hp
theorem pgs_T : ∀ {es : List Expr} {ts : Tgs}, TgsOk X cls es ts → PGs X es (gTs (zx X cls exc) ts)
  | _, _, .nil => pgs_nil.cons fun vs σ H Q ⟨r, F, fp, ds, r', R, h, hp, q⟩ => by
    cases ds with
    | nil =>
      cases h
      unfold putTs at hp
      cases hp
      exact ⟨rfl, q σ R (fun _ z => z) fun _ _ => rfl⟩
    | cons d ds => unfold putTs at hp; cases hp
  | _, _, .cons h1 h2 hs => (pgs_cons (pg_T h1) (pgs_T h2) hs).cons fun vs σ H Q ⟨r, F, fp, ds, r', R, h, hp, q⟩ => by
    cases ds with
    | nil => unfold putTs at hp; cases hp
    | cons d ds =>
      unfold putTs at hp
      split at hp
      · rename_i r1 hr1
        cases h with
        | cons k1 k2 => exact ⟨_, _, rfl, r, F, fp, d, r1, R, k1, hr1, fun σ' R1 o1 j1 => ⟨r1, F, fp, ds, r', R1, k2, hp, fun σ2 R2 o2 j2 => q σ2 R2 (fun a z => o1 a (o2 a z)) fun j hj => (j2 j fun z => hj (by unfold tgsS; exact List.mem_append_right _ z)).trans (j1 j fun z => hj (by unfold tgsS; exact List.mem_append_left _ z))⟩⟩
      · cases hp
end
/-! ### name = value -/
theorem put_end {i : Nat} (np : NoPin Z.cls i) {b b1 : Bs} {D : Ends} {y : V} {v : Vl} {r1 : Fr} {fr : List Addr} (A1 : Aft (Z := Z) (σ := σ) (PVl Z σ) b b1 y H v r1 F fp fr) (e : Ext b.r b.fp b.F b.H b1.r b1.fp b1.F b1.H) (g : GdS Z b W D (orOut (v.put r1 i) .nx)) : D.nx (σ.set i (some y)) H := by
  obtain ⟨r2, h2, g2⟩ := g.orOut
  obtain ⟨F', fp', R', e'⟩ := put_ok np A1.R A1.p h2 A1.e (A1.f e)
  exact g2.nx e' R'
theorem ps_asgN {i : Nat} {y : Str} {pos' : Pos} (hN : X.N.Nodup) (hi : X.N[i]? = some y) (hx : Loc X.env.scope y) (he : PE X e (tE X cls exc W G C x)) (hs : swapsWith e (some (.Name y pos')) pos.line X.env = pure false := by rfl) (hf : X.fn y = true ∨ X.env.scope.names.lookup y = some .local := by first | exact .inl rfl | exact .inr rfl | assumption) (np : NoPin cls i := by rfl) :
    PS X (.Assign [.Name y pos'] e pos) (tSt X cls exc W G C (.asg (.nm i) x)) := by
  refine (ps_set hN hi hx he hs hf).cons fun D σ H ⟨r, F, fp, R, g⟩ => ?_
  rw [evS] at g
  obtain ⟨r0, F0, fp0, R0, g0⟩ := stepS R (.refl ..) g
  exact ⟨r0, F0, fp0, R0, g0.mono fun y H1 ⟨va, r1, F1, fp1, f1, A1, g1⟩ => put_end np A1 (.refl ..) g1⟩
/-- (a, b, ..) = value -/
theorem ps_asgT {es : List Expr} {k : Nat} {pos' : Pos} {ts : Tgs} (ht : TgOk X cls (.Tuple es k pos') (.tp ts)) (he : PE X e (tE X cls exc W G C x)) (hs : swapsWithSole [.Tuple es k pos'] e pos.line X.env = pure false := by rfl) (hw : swappedStores [.Tuple es k pos'] e X.env = pure none := by rfl)
    (h1 : (assignEach [.Tuple es k pos'] X.env).map (·.2) = [assign (.Tuple es k pos') X.env] := by rfl) :
    PS X (.Assign [.Tuple es k pos'] e pos) (tSt X cls exc W G C (.asg (.tp ts) x)) := by
  cases ht with
  | tp hc ht hst hn =>
    refine (ps_asg he (pg_seq hc (pgs_T (cls := cls) (exc := exc) ht) hn hst) hs hw h1).cons fun D σ H ⟨r, F, fp, R, g⟩ => ?_
    rw [evS] at g
    obtain ⟨r0, F0, fp0, R0, g0⟩ := stepS R (.refl ..) g
    refine ⟨r0, F0, fp0, R0, g0.mono fun y H1 ⟨va, r1, F1, fp1, f1, A1, g1⟩ => ?_⟩
    obtain ⟨r2, h2, g2⟩ := g1.orOut
    unfold putV at h2
    have go : ∀ {ds : List VL.D} {d : VL.D} {rr : Fr}, seqOf d = some ds → va.take r1 = some (d, rr) → putTs ts ds rr = some r2 → gSeq X.K es.length (gTs (zx X cls exc) ts) y σ H1 D.nx := fun {ds d rr} hq hv hp => by
      obtain ⟨F', R', hr, gw, hl⟩ := Vl.take_ok A1.R A1.p hv
      have e2 := gw.ext (fun a ha => (A1.f (.refl ..) a ha).symm) A1.e
      obtain ⟨pp, zs, rfl, h3, h4⟩ := seqView hq (hr.view R'.same) R'.same
      exact ⟨pp, zs, rfl, h3, by rw [← h4.length]; exact putTs_len ht hp, rr, F', fp1, ds, r2, R', h4, hp, fun σ' R2 o2 _ => g2.nx ⟨e2.sF, e2.new, e2.keep, fun a z => e2.shr a (o2 a z)⟩ R2⟩
    dsimp only at h2
    split at h2
    · rename_i ds rr hv
      exact go rfl hv h2
    · rename_i ds rr hv
      exact go rfl hv h2
    · cases h2
/-! ### a, b = x, y -/
theorem par_rel : ∀ {is : List Nat} {ds : List D} {vs : List V}, (∀ i ∈ is, NoPin Z.cls i) → RepL Z F ds vs → is.length = ds.length → ∀ {r : Fr} {σ : L2.St}, Rel Z r σ F H fp → Rel Z ((is.zip ds).foldl (fun r q => r.set q.1 (some (false, q.2))) r) ((is.zip vs).foldl (fun σ q => σ.set q.1 (some q.2)) σ) F H fp ∧ ∀ a, OwnS ((is.zip ds).foldl (fun r q => r.set q.1 (some (false, q.2))) r) fp a → OwnS r fp a
  | [], _, _, _, _, _, r, σ, R => ⟨R, fun _ z => z⟩
  | i :: is, [], _, _, _, h, _, _, _ => by simp at h
  | i :: is, d :: ds, _, np, .cons h1 h2, h, r, σ, R => by
    rw [List.zip_cons_cons, List.zip_cons_cons, List.foldl_cons, List.foldl_cons]
    obtain ⟨k1, k2⟩ := par_rel (fun j hj => np j (List.mem_cons_of_mem _ hj)) h2 (by simpa using h) (R.setFro i (np i List.mem_cons_self) h1)
    exact ⟨k1, fun a z => OwnS.set_sub (fun _ q => by cases q) (k2 a z)⟩
theorem par_end {is : List Nat} (np : ∀ i ∈ is, NoPin Z.cls i) {b b1 : Bs} {D : Ends} {ys : List V} {vs : List Vl} {r1 : Fr} {fr : List Addr} (A1 : Aft (Z := Z) (σ := σ) (PVls Z σ) b b1 ys H vs r1 F fp fr) (e : Ext b.r b.fp b.F b.H b1.r b1.fp b1.F b1.H)
    (g : GdS Z b W D (orOut (takeL vs r1) fun p => if p.1.length = is.length then .nx ((is.zip p.1).foldl (fun r q => r.set q.1 (some (false, q.2))) p.2) else .bad)) : ys.length = is.length ∧ D.nx ((is.zip ys).foldl (fun σ q => σ.set q.1 (some q.2)) σ) H := by
  obtain ⟨⟨ds, r2⟩, h2, g2⟩ := g.orOut
  dsimp only at g2
  split at g2
  · rename_i hl
    obtain ⟨F', R', p', e', _⟩ := take_vals A1 e h2
    obtain ⟨k1, k2⟩ := par_rel np p' hl.symm R'
    exact ⟨by rw [← p'.length]; exact hl, g2.nx ⟨e'.sF, e'.new, e'.keep, fun a z => e'.shr a (k2 a z)⟩ k1⟩
  · exact g2.elim
theorem ps_par2V {i j : Nat} {x y : Str} {a b : Expr} {xs : Ar} {px py pt : Pos} {kt k2 pt2} (hc : X.calm = true) (hN : X.N.Nodup) (hi : X.N[i]? = some x) (hj : X.N[j]? = some y) (hij : i ≠ j)
    (hx : X.env.scope.names.lookup x = some .local) (hy : X.env.scope.names.lookup y = some .local) (ha : PA X [a, b] (tA X cls exc W G C xs))
    (hw : swappedStores [.Tuple [.Name x px, .Name y py] kt pt] (.Tuple [a, b] k2 pt2) X.env = pure (some [x, y]))
    (hs : swapsWithSole [.Tuple [.Name x px, .Name y py] kt pt] (.Tuple [a, b] k2 pt2) pos.line X.env = pure false := by rfl) (np : (([i, j] : List Nat).all fun k => cls.pins.all fun ip => ip.1 != k) = true := by rfl) :
    PS X (.Assign [.Tuple [.Name x px, .Name y py] kt pt] (.Tuple [a, b] k2 pt2) pos) (tSt X cls exc W G C (.par [i, j] xs)) := by
  refine (ps_par hc hN hi hj hij hx hy ha hw hs).cons fun D σ H ⟨r, F, fp, R, g⟩ => ?_
  rw [evS] at g
  obtain ⟨r0, F0, fp0, R0, g0⟩ := stepSA R (.refl ..) g
  refine ⟨r0, F0, fp0, R0, g0.mono fun ys H1 ⟨vs, r1, F1, fp1, f1, A1, g1⟩ => ?_⟩
  obtain ⟨h1, h2⟩ := par_end (Z := zx X cls exc) (fun k h => List.all_eq_true.mp np k h) A1 (.refl ..) g1
  match ys, h1, h2 with
  | [v, w], _, h2 => exact ⟨v, w, rfl, h2⟩
theorem ps_par3V {i j l : Nat} {x y z : Str} {a b c : Expr} {xs : Ar} {px py pz pt pos : Pos} {kt k2 pt2} (hc : X.calm = true) (hN : X.N.Nodup) (hi : X.N[i]? = some x) (hj : X.N[j]? = some y) (hl : X.N[l]? = some z) (hij : i ≠ j) (hil : i ≠ l) (hjl : j ≠ l)
    (hx : X.env.scope.names.lookup x = some .local) (hy : X.env.scope.names.lookup y = some .local) (hz : X.env.scope.names.lookup z = some .local) (ha : PA X [a, b, c] (tA X cls exc W G C xs))
    (hw : swappedStores [.Tuple [.Name x px, .Name y py, .Name z pz] kt pt] (.Tuple [a, b, c] k2 pt2) X.env = pure (some [x, y, z]))
    (hs : swapsWithSole [.Tuple [.Name x px, .Name y py, .Name z pz] kt pt] (.Tuple [a, b, c] k2 pt2) pos.line X.env = pure false := by rfl) (np : (([i, j, l] : List Nat).all fun k => cls.pins.all fun ip => ip.1 != k) = true := by rfl) :
    PS X (.Assign [.Tuple [.Name x px, .Name y py, .Name z pz] kt pt] (.Tuple [a, b, c] k2 pt2) pos) (tSt X cls exc W G C (.par [i, j, l] xs)) := by
  refine (ps_par3 hc hN hi hj hl hij hil hjl hx hy hz ha hw hs).cons fun D σ H ⟨r, F, fp, R, g⟩ => ?_
  rw [evS] at g
  obtain ⟨r0, F0, fp0, R0, g0⟩ := stepSA R (.refl ..) g
  refine ⟨r0, F0, fp0, R0, g0.mono fun ys H1 ⟨vs, r1, F1, fp1, f1, A1, g1⟩ => ?_⟩
  obtain ⟨h1, h2⟩ := par_end (Z := zx X cls exc) (fun k h => List.all_eq_true.mp np k h) A1 (.refl ..) g1
  match ys, h1, h2 with
  | [u, v, w], _, h2 => exact ⟨u, v, w, rfl, h2⟩
/-! ### name += e -/
def ipAdd (Z : Zx) : TIp := fun x y H Q => ∃ F dx dy v, Same F H ∧ View Z F H x dx ∧ View Z F H y dy ∧ ((∃ a b, dx = .int a ∧ dy = .int b) ∨ ∃ a b, dx = .str a ∧ dy = .str b) ∧ binD .add dx dy = some v ∧ ResV Z F H Q v
theorem ip_addV : PIp X .Add (ipAdd (zx X cls exc)) := by
  intro pins s σ H x y v u Q I r1 r2 ⟨F, dx, dy, w, e, vx, vy, hd, hb, q⟩
  rcases hd with ⟨a, b, rfl, rfl⟩ | ⟨a, b, rfl, rfl⟩
  · cases vx; cases vy; cases hb
    exact ip_add pins s σ H _ _ v u Q I r1 r2 ⟨a, b, rfl, rfl, q.int e⟩
  · cases vx; cases vy
    unfold binD at hb
    dsimp only at hb
    split at hb
    · rename_i hz
      cases hb
      exact iop_add_str pins s σ H _ _ v u Q I r1 r2 ⟨a, b, rfl, rfl, by rw [← lim_line]; exact hz, q.str e⟩
    · cases hb
theorem ps_augV {i : Nat} {y : Str} {pos' : Pos} (hN : X.N.Nodup) (hi : X.N[i]? = some y) (hx : Loc X.env.scope y) (he : PE X e (tE X cls exc W G C x)) (hf : X.fn y = true ∨ X.env.scope.names.lookup y = some .local := by first | exact .inl rfl | exact .inr rfl | assumption) (np : NoPin cls i := by rfl) :
    PS X (.AugAssign (.Name y pos') .Add e pos) (tSt X cls exc W G C (.aug i .add x)) := by
  refine (ps_aug hN hi hx he (ip_addV (cls := cls) (exc := exc)) hf).cons fun D σ H ⟨r, F, fp, R, g⟩ => ?_
  rw [evS] at g
  split at g
  · exact g.elim
  · rename_i d0 hs0
    obtain ⟨v0, hv0⟩ := slot_val R hs0
    refine ⟨v0, hv0, ?_⟩
    obtain ⟨r0, F0, fp0, R0, g0⟩ := stepS R (.refl ..) g
    refine ⟨r0, F0, fp0, R0, g0.mono fun y H1 ⟨va, r1, F1, fp1, f1, A1, g1⟩ => ?_⟩
    have fin : ∀ {dx dy : VL.D}, slotD r1 i = some dx → va.get r1 = some dy → ((∃ a b, dx = .int a ∧ dy = .int b) ∨ ∃ a b, dx = .str a ∧ dy = .str b) → GdS (zx X cls exc) ⟨r, fp, F, H⟩ W D (orOut (binD .add dx dy) fun w => orOut (w.put r1 i) .nx) → ipAdd (zx X cls exc) v0 y H1 fun z H2 => D.nx (σ.set i (some z)) H2 := fun {dx dy} h1 h2 h3 gg => by
      obtain ⟨w, hw, gw⟩ := gg.orOut
      refine ⟨F1, dx, dy, w, A1.R.same, slot_view A1.R h1 hv0, A1.p.view A1.R h2, h3, hw, ?_⟩
      obtain ⟨r3, h4, g5⟩ := gw.orOut
      rcases h3 with ⟨a, b, rfl, rfl⟩ | ⟨a, b, rfl, rfl⟩
      · cases hw
        cases h4
        intro v F2 H2 n hr
        have R2 := n.rel A1.R
        have e2 := A1.e.trans (n.ext (r := r1) (fp := fp1))
        exact g5.nx ⟨e2.sF, e2.new, e2.keep, fun a z => e2.shr a (OwnS.set_sub (fun _ q => by cases q) z)⟩ (R2.setFro i np hr)
      · unfold binD at hw
        dsimp only at hw
        split at hw
        · cases hw
          cases h4
          intro v F2 H2 n hr
          have R2 := n.rel A1.R
          have e2 := A1.e.trans (n.ext (r := r1) (fp := fp1))
          exact g5.nx ⟨e2.sF, e2.new, e2.keep, fun a z => e2.shr a (OwnS.set_sub (fun _ q => by cases q) z)⟩ (R2.setFro i np hr)
        · cases hw
    split at g1
    · rename_i a b h1 h2
      exact fin h1 h2 (.inl ⟨a, b, rfl, rfl⟩) g1
    · rename_i a b h1 h2
      exact fin h1 h2 (.inr ⟨a, b, rfl, rfl⟩) g1
    · exact g1.elim
end
end VL
end
section
/-! V19: what is walked. -/
namespace PySem
open Sem (wp)
open AutoSeq1 (wpAny_loadPart')
theorem meets_enumerate_newT (l : Addr) (items : Array Value) (n : Nat) (dct : Option Addr) (sl : Array (Option Value)) :
    Meets (Builtin.«enumerate.__new__» ⟨[.type "enumerate", .ref l], []⟩) (fun _ R s => s.heap.get? l = some { cls := .type "tuple", dict := dct, data := .seq items n, slots := sl } ∧
      R (.ok (.ret (.ref (s.heap.push { cls := .type "tuple_iterator", data := .fields #[.ref l, .int 0 0] }).objs.size)))
        { s with heap := (s.heap.push { cls := .type "tuple_iterator", data := .fields #[.ref l, .int 0 0] }).push { cls := .type "enumerate", data := .fields #[.none, .bool false, .ref s.heap.objs.size, rawInt 0, .none, .none] } }) :=
  .of_wp fun prog w A R s h => by
    obtain ⟨hp, g, d, tk, os⟩ := s; obtain ⟨hl, h⟩ := h
    have hsub := sub_enumerate
    have hL : Heap.IsTuple (Shared.heap ⟨hp, g, d, tk, os⟩) l items := ⟨_, hl, rfl, n, rfl⟩
    wp_walk using wpAny_loadPart' hl
    refine wpAny_stack_any fun st => wpAny_pure ?_
    split
    · rename_i c _ _ _ _ _
      cases (c == Value.type "enumerate")
      · wp_walk using wpAny_loadPart' hl, wpAny_pyIter_tuple hL
        exact ⟨_, rfl, h⟩
      · wp_walk using wpAny_loadPart' hl, wpAny_pyIter_tuple hL
        exact ⟨_, rfl, h⟩
    · wp_walk using wpAny_loadPart' hl, wpAny_pyIter_tuple hL
      exact ⟨_, rfl, h⟩
theorem call_enumerate_tuple {prog : Program} {w : World} {A : Around} {E : Value → Shared → Prop} {s : Shared} {l : Addr} {items : Array Value} {Q : Value → Shared → Prop} (hL : s.heap.IsTuple l items)
    (h : ∀ h', IsEnum h' (s.heap.objs.size + 1) s.heap.objs.size 0 .none → h'.IsTupleIter s.heap.objs.size l 0 → h'.objs.size = s.heap.objs.size + 2 →
      (∀ b o, s.heap.get? b = some o → h'.get? b = some o) → Q (.ref (s.heap.objs.size + 1)) { s with heap := h' }) :
    wpAny (model prog w) A (call (.type "enumerate") [.ref l]) Q E s := by
  obtain ⟨⟨c, dct, dt, sl⟩, hl, hc, n, hd⟩ := hL
  replace hc : c = .type "tuple" := hc
  replace hd : dt = .seq items n := hd
  subst hc hd
  refine callType_new F.called_enumerate (by decide) (F.typeCall_enumerate_1 _) (F.newCall_enumerate_1 _) (fun obj => F.args_object_init_2 obj _) F.entry_enumerate_new
    (meets_enumerate_newT l items n dct sl) ⟨hl, ?_⟩
  have hz : (s.heap.push { cls := .type "tuple_iterator", data := .fields #[.ref l, .int 0 0] }).objs.size = s.heap.objs.size + 1 := Heap.size_push ..
  show _ ∧ _
  rw [hz]
  have he : IsEnum ((s.heap.push { cls := .type "tuple_iterator", data := .fields #[.ref l, .int 0 0] }).push
      { cls := .type "enumerate", data := .fields #[.none, .bool false, .ref s.heap.objs.size, rawInt 0, .none, .none] }) (s.heap.objs.size + 1) s.heap.objs.size 0 .none := by
    have := Heap.get?_push_size (s.heap.push { cls := .type "tuple_iterator", data := .fields #[.ref l, .int 0 0] })
      (o := { cls := .type "enumerate", data := .fields #[.none, .bool false, .ref s.heap.objs.size, rawInt 0, .none, .none] }) rfl
    rw [hz] at this; exact this
  refine ⟨⟨_, he, rfl⟩, h _ he ⟨_, Heap.get?_push_of_some _ (Heap.get?_push_size _ rfl), rfl, rfl⟩ (by rw [Heap.size_push, hz]) fun b o x => Heap.get?_push_of_some _ (Heap.get?_push_of_some _ x)⟩
end PySem
namespace VL
open PySem PySem.Spec PyProof.Rows L2

/-- enumerate of the tuple at a -/
def Iten (K : PySem.W.Frag) (a : Addr) : L2.It :=
  ⟨fun i H => ∃ (xs : List V) (x : V), SqT K H a xs ∧ xs[i]? = some x, fun i H v H' => ∃ T x, v = .ref T ∧ H T = none ∧ H' = upd H T (.tup [.int (i : Nat), x]) ∧ ∀ xs, SqT K H a xs → xs[i]? = some x, fun i H => ∃ xs : List V, SqT K H a xs ∧ xs.length = i⟩
theorem turn_enumT {P : Program} {w : World} {K : PySem.W.Frag} {elts : List Expr} {kk : Nat} {tpos : Pos} (a e it : Addr) :
    Turn P w K (.Tuple elts kk tpos) (Iten K a) [e, it] e (fun i h => (∃ old, IsEnum h e it ((i : Nat) : Int) old) ∧ h.IsTupleIter it a i ∧ e ≠ it ∧ a ≠ it ∧ e ≠ a) where
  mem := by simp
  obj := fun i h st b hb => by
    obtain ⟨⟨old, he⟩, ⟨o, ho, hc, hd⟩, _⟩ := st
    have e' : b = e ∨ b = it := by simpa using hb
    rcases e' with z | z
    · rw [z]; exact ⟨_, he, fun v q => nomatch q⟩
    · rw [z]; exact ⟨o, ho, fun v q => by rw [hd] at q; cases q⟩
  keep := fun i h h' st k => let ⟨⟨old, he⟩, hi, hne⟩ := st; ⟨⟨old, k e (by simp) _ he⟩, hi.at fun o q => k it (by simp) o q, hne⟩
  item := by
    intro X hP hw hK hc i pins s σ H E I hf st hg
    subst hP hw hK
    obtain ⟨⟨old, he⟩, hit, hne, hai, hea⟩ := st
    obtain ⟨xs, x, hq, hx⟩ := hg
    obtain ⟨its, rv, p, hz⟩ := I.tuple hq
    obtain ⟨u, hu, ru⟩ := rv.get hx
    have hel : e < s.heap.objs.size := Heap.lt_size he
    have hil : it < s.heap.objs.size := by obtain ⟨_, q, _⟩ := hit; exact Heap.lt_size q
    have hu' : its.toArray[i]? = some u := by simpa using hu
    have hlt : i < its.toArray.size := (Array.getElem?_eq_some_iff.mp hu').1
    refine wpAny_pyNext_enum_itemD (Draws.tuple (A := X.A.in1) (I.ok.hd hc) it a hai its.toArray) he ⟨hit, p⟩ hlt hne (by simp [hne, hea]) fun x' h' tk hPx ho hst' hT hsz hk => ?_
    have hxu : x' = u := by
      have : its.toArray[i]? = some x' := hPx
      rw [hu'] at this
      exact (Option.some.inj this).symm
    subst hxu
    refine ⟨_, rfl, wpAny_letOwnedTupleGo_enum (s := { s with heap := h', toks := tk + 1 }) ho fun h'' he' sb => ?_⟩
    have hT2 : h''.get? s.heap.objs.size = some { cls := .type "tuple", data := .seq #[.int i tk, x'] } := (sb.2 _ (Nat.ne_of_gt hel)).trans hT
    have new : ObjOk X.prog X.w (upd H s.heap.objs.size (.tup [.int (i : Nat), x])) h'' s.heap.objs.size (.tup [.int (i : Nat), x]) :=
      ⟨by show 2 ≤ sizeLine; decide, [.int i tk, x'], .cons ⟨_, rfl⟩ (.cons ru .nil), ⟨_, hT2, rfl, _, rfl⟩⟩
    have I1 : Inv X pins σ (upd H s.heap.objs.size (.tup [.int (i : Nat), x])) { s with heap := h'', toks := tk + 1 } :=
      I.turnedNew (ch := [e, it]) (fun b ob hb q => (sb.2 b (fun z => hb (by simp [z]))).trans (hk b ob (fun z => hb (by simp [z])) (fun z => hb (by simp [z])) q)) hf (Nat.le_refl _) new
    refine ⟨.ref s.heap.objs.size, _, I1, rfl, ⟨_, x, rfl, I.hok.fresh (Nat.le_refl _), rfl, fun ys hy => by rw [I.tuple_inj hy hq]; exact hx⟩, ⟨⟨x', ?_⟩, hst'.1.at fun o q => (sb.2 it (Ne.symm hne)).trans q, hne, hai, hea⟩, fun b hb => ?_⟩
    · have e1 : ((i + 1 : Nat) : Int) = (i : Int) + 1 := by omega
      rw [e1]; exact he'
    · have hb' : b < s.heap.objs.size := by
        have e' : b = e ∨ b = it := by simpa using hb
        rcases e' with z | z
        · rw [z]; exact hel
        · rw [z]; exact hil
      rw [upd_ne (Nat.ne_of_lt hb')]
      exact (hf b hb).1
  done := by
    intro X hP hw hK hc i pins s σ H E I hf st hg
    subst hP hw hK
    obtain ⟨⟨old, he⟩, hit, hne, hai, hea⟩ := st
    obtain ⟨xs, hq, hx⟩ := hg
    obtain ⟨its, rv, p, hz⟩ := I.tuple hq
    obtain ⟨f0, f1, f2, f3, f4, f5⟩ := hf it (by simp)
    have hl := rv.length
    have hi : i = its.toArray.size := by rw [List.size_toArray, ← hl]; exact hx.symm
    refine wpAny_pyNext_enum_endD (Draws.tuple (A := X.A.in1) (I.ok.hd hc) it a hai its.toArray) he (by rw [← hi]; exact ⟨hit, p⟩) fun h' eb => ⟨rfl, I.turned (t' := s.toks) (fun b o hb q => eb b o hb q) f0 f1 f3 f4 f5⟩
  self := fun A i s Q E st h => let ⟨⟨_, he⟩, _⟩ := st; wpAny_pyIter_enum he h
/-- the keys of the dict at d -/
def Itrk (d : Addr) (o : Obj) (ks : List V) : L2.It :=
  ⟨fun i H => H d = some (dco d o) ∧ i < ks.length, fun i H x H' => H' = H ∧ ks[i]? = some x, fun i H => H d = some (dco d o) ∧ ks.length ≤ i⟩
theorem turn_keysR {P : Program} {w : World} {K : PySem.W.Frag} {tg : Expr} {d : Addr} {o : Obj} {es : Array DictEntry} {ep : Nat} {ks : List V} (it : Addr) (hod : o.data = .dict es ep) (hv : Vals ks (es.toList.map (·.key))) :
    Turn P w K tg (Itrk d o ks) [it] it (fun i h => h.IsKeyIter it d i es.size ep) where
  mem := by simp
  obj := fun i h st b hb => by
    have e : b = it := by simpa using hb
    subst e
    obtain ⟨oi, e, c, dd⟩ := st
    exact ⟨oi, e, fun v z => by rw [dd] at z; cases z⟩
  keep := fun i h h' st k => st.at fun oi e => k it (by simp) oi e
  item := by
    intro X hP hw hK hc i pins s σ H E I hf st hg
    subst hP hw hK
    obtain ⟨hd, hi⟩ := hg
    obtain ⟨f0, f1, f2, f3, f4, f5⟩ := hf it (by simp)
    have hgd : s.heap.get? d = some o := (I.hok d _ hd).1
    obtain ⟨x, hx⟩ : ∃ x, ks[i]? = some x := ⟨_, List.getElem?_eq_getElem hi⟩
    obtain ⟨u, hu, ru⟩ := hv.get hx
    obtain ⟨en, hen, hk⟩ : ∃ en, es[i]? = some en ∧ en.key = u := by
      rw [List.getElem?_map, Array.getElem?_toList] at hu
      obtain ⟨en, h1, h2⟩ := Option.map_eq_some_iff.mp hu
      exact ⟨en, h1, h2⟩
    subst hk
    refine next_key_item st hgd hod rfl hen fun h' st' sb => ?_
    have I1 : Inv X pins σ H { s with heap := h' } := I.turned (t' := s.toks) (fun b ob hb e => (sb.2 b hb).trans e) f0 f1 f3 f4 f5
    obtain ⟨oi, e, c, dd⟩ := id st'
    exact ⟨_, rfl, go_of (s := { s with heap := h' }) e c dd (by decide) ⟨x, H, I1, ru, ⟨rfl, hx⟩, st', fun b hb => (hf b hb).1⟩⟩
  done := by
    intro X hP hw hK hc i pins s σ H E I hf st hg
    subst hP hw hK
    obtain ⟨hd, hi⟩ := hg
    obtain ⟨f0, f1, f2, f3, f4, f5⟩ := hf it (by simp)
    have hgd : s.heap.get? d = some o := (I.hok d _ hd).1
    have hl : ks.length = es.size := by simpa using hv.length
    have hi' : es.size ≤ i := by rw [← hl]; exact hi
    exact next_key_end (I.ok.hd hc) st hgd hod rfl hi' fun h' eb => ⟨rfl, I.turned (t' := s.toks) (fun b ob hb e => eb b ob hb e) f0 f1 f3 f4 f5⟩
  self := fun A i s Q E st h => wpAny_pyIter_keyiter st h

/-! ### readings -/
section
variable {X : Cx} {cls : Clz} {exc : List (Addr × List Str)} {W : WX} {G : List Fd} {C : List D} {e a b c : Expr} {es : List Expr} {xa xb xc x : Ex} {xs : Ar} {pos p : Pos} {f : Str} {tg : Expr}
variable {Z : Zx} {r r' r2 : Fr} {σ σ' : L2.St} {F F' F2 H H' H2 : Hp} {fp fp' fp2 : Nat → List Addr} {s : Shared} {pins : List (Addr × Obj)}
/-- what a turn gives: an item; a new pair -/
def YOk (Z : Zx) (F H : Hp) (v : V) (d : D) (H' : Hp) : Bool → Prop
  | false => H' = H ∧ Rep Z F d v
  | true => ∃ T x y dx dy, v = .ref T ∧ H T = none ∧ H' = upd H T (.tup [x, y]) ∧ d = .tup [dx, dy] ∧ Rep Z F dx x ∧ Rep Z F dy y
def ItOk (Z : Zx) (J : L2.It) (F : Hp) (ds : List D) (pr : Bool) : Prop := ∀ i H, Same F H → (i < ds.length → J.go i H) ∧ (i = ds.length → J.stop i H) ∧ ∀ v H' d, J.yld i H v H' → ds[i]? = some d → YOk Z F H v d H' pr
abbrev PIt (Z : Zx) (pr : Bool) : PrG (List D) L2.It := fun r F H fp J fr ds => ItOk Z J F ds pr ∧ fr = []
def tI (Z : Zx) (W : WX) (pr : Bool) (m : Fr → Res (List D)) : TI := fun σ H R => ∃ r F fp, Rel Z r σ F H fp ∧ GdG Z σ (PIt Z pr) ⟨r, fp, F, H⟩ W R (m r)
abbrev tIt (X : Cx) (cls : Clz) (exc : List (Addr × List Str)) (W : WX) (G : List Fd) (C : List D) (pr : Bool) (x : VL.It) : TI := tI (zx X cls exc) W pr (evI G C x)
theorem it_list {a : Addr} {zs : List V} {ds : List D} (h : F a = some (.lst zs)) (hr : RepL Z F ds zs) : ItOk Z (Itl Z.K a) F ds false := fun i H e => by
  have hH : SqL Z.K H a zs := .inl (.of (e _ _ h))
  refine ⟨fun hi => ?_, fun hi => ⟨zs, hH, by rw [← hr.length]; omega⟩, fun v H' d hy hd => ?_⟩
  · obtain ⟨v, h1, _⟩ := hr.get (List.getElem?_eq_getElem hi)
    exact ⟨zs, v, hH, h1⟩
  · obtain ⟨v', h1, h2⟩ := hr.get hd
    obtain ⟨e1, e2⟩ := hy
    have := e2 zs hH
    rw [h1] at this
    cases this
    exact ⟨e1, h2⟩
theorem it_tup {a : Addr} {zs : List V} {ds : List D} (h : SqN Z.K F a zs) (hr : RepL Z F ds zs) : ItOk Z (Itt Z.K a) F ds false := fun i H e => by
  have hH : SqT Z.K H a zs := (Same.tup e h).sqT
  refine ⟨fun hi => ?_, fun hi => ⟨zs, hH, by rw [← hr.length]; omega⟩, fun v H' d hy hd => ?_⟩
  · obtain ⟨v, h1, _⟩ := hr.get (List.getElem?_eq_getElem hi)
    exact ⟨zs, v, hH, h1⟩
  · obtain ⟨v', h1, h2⟩ := hr.get hd
    obtain ⟨e1, e2⟩ := hy
    have := e2 zs hH
    rw [h1] at this
    cases this
    exact ⟨e1, h2⟩
theorem it_str {z : Str} : ItOk Z (Its z) F (z.cps.toList.map fun c => .str ⟨#[c]⟩) false := fun i H e => by
  refine ⟨fun hi => ?_, fun hi => ?_, fun v H' d hy hd => ?_⟩
  · have : i < z.cps.size := by simpa using hi
    exact this
  · have : z.cps.size ≤ i := by rw [hi]; simp
    exact this
  · obtain ⟨e1, c, h1, rfl⟩ := hy
    rw [List.getElem?_map, Array.getElem?_toList, h1] at hd
    cases hd
    exact ⟨e1, .str _⟩
theorem it_keys {d : Addr} {o : Obj} {es : Array DictEntry} {ep : Nat} {ks : List V} {ds : List D} (h : F d = some (dco d o)) (hr : RepL Z F ds ks) : ItOk Z (Itrk d o ks) F ds false := fun i H e => by
  refine ⟨fun hi => ⟨e _ _ h, by rw [← hr.length]; exact hi⟩, fun hi => ⟨e _ _ h, by rw [← hr.length]; omega⟩, fun v H' dd hy hd => ?_⟩
  obtain ⟨v', h1, h2⟩ := hr.get hd
  obtain ⟨e1, e2⟩ := hy
  rw [h1] at e2
  cases e2
  exact ⟨e1, h2⟩
theorem it_rng {lo hi : Int} {ds : List D} (h : rangeD lo hi = some ds) : ItOk Z (Itr lo (hi - lo).toNat) F ds false := fun i H e => by
  obtain ⟨_, hr⟩ := rng_rep (Z := Z) (F := F) h
  have hl : ds.length = (hi - lo).toNat := by rw [hr.length, rgV_length]
  refine ⟨fun hi => by rw [hl] at hi; exact hi, fun hi => Nat.le_of_eq (by rw [hi, hl]), fun v H' d hy hd => ?_⟩
  obtain ⟨e1, rfl⟩ := hy
  obtain ⟨v', h1, h2⟩ := hr.get hd
  unfold rgV at h1
  rw [List.getElem?_map] at h1
  obtain ⟨k, h3, h4⟩ := Option.map_eq_some_iff.mp h1
  have := (List.getElem?_eq_some_iff.mp h3).2
  rw [List.getElem_range] at this
  subst this h4
  exact ⟨e1, h2⟩
theorem enum_get {xs : List D} {i : Nat} {d : D} (h : (enumD xs)[i]? = some d) : ∃ x, xs[i]? = some x ∧ d = .tup [.int (i : Int), x] := by
  unfold enumD at h
  rw [List.getElem?_zipWith] at h
  cases hx : xs[i]? with
  | none => rw [hx] at h; split at h <;> first | cases h | skip
            all_goals first | (rename_i h1 h2; cases h2) | skip
  | some x =>
    have hl : i < xs.length := (List.getElem?_eq_some_iff.mp hx).1
    rw [hx, List.getElem?_range hl] at h
    cases h
    exact ⟨x, rfl, rfl⟩
theorem enum_len (xs : List D) : (enumD xs).length = xs.length := by unfold enumD; simp
theorem it_enumL {a : Addr} {zs : List V} {ds : List D} (h : F a = some (.lst zs)) (hr : RepL Z F ds zs) : ItOk Z (Ite Z.K a) F (enumD ds) true := fun i H e => by
  have hH : SqL Z.K H a zs := .inl (.of (e _ _ h))
  rw [enum_len]
  refine ⟨fun hi => ?_, fun hi => ⟨zs, hH, by rw [← hr.length]; omega⟩, fun v H' d hy hd => ?_⟩
  · obtain ⟨v, h1, _⟩ := hr.get (List.getElem?_eq_getElem hi)
    exact ⟨zs, v, hH, h1⟩
  · obtain ⟨x, hx, rfl⟩ := enum_get hd
    obtain ⟨v', h1, h2⟩ := hr.get hx
    obtain ⟨T, y, rfl, hT, rfl, e2⟩ := hy
    have := e2 zs hH
    rw [h1] at this
    cases this
    exact ⟨T, .int (i : Nat), v', _, _, rfl, hT, rfl, rfl, .int _, h2⟩
theorem it_enumT {a : Addr} {zs : List V} {ds : List D} (h : SqN Z.K F a zs) (hr : RepL Z F ds zs) : ItOk Z (Iten Z.K a) F (enumD ds) true := fun i H e => by
  have hH : SqT Z.K H a zs := (Same.tup e h).sqT
  rw [enum_len]
  refine ⟨fun hi => ?_, fun hi => ⟨zs, hH, by rw [← hr.length]; omega⟩, fun v H' d hy hd => ?_⟩
  · obtain ⟨v, h1, _⟩ := hr.get (List.getElem?_eq_getElem hi)
    exact ⟨zs, v, hH, h1⟩
  · obtain ⟨x, hx, rfl⟩ := enum_get hd
    obtain ⟨v', h1, h2⟩ := hr.get hx
    obtain ⟨T, y, rfl, hT, rfl, e2⟩ := hy
    have := e2 zs hH
    rw [h1] at this
    cases this
    exact ⟨T, .int (i : Nat), v', _, _, rfl, hT, rfl, rfl, .int _, h2⟩

/-- taken, walked -/
theorem take_it {b b1 : Bs} {v : V} {va : Vl} {r1 : Fr} {fr : List Addr} {d : D} (A1 : Aft (Z := Z) (σ := σ) (PVl Z σ) b b1 v H va r1 F fp fr) (e : Ext b.r b.fp b.F b.H b1.r b1.fp b1.F b1.H) (t : va.take r1 = some (d, r')) :
    ∃ F', Rel Z r' σ F' H fp ∧ Rep Z F' d v ∧ Ext b.r b.fp b.F b.H r' fp F' H := by
  obtain ⟨F', R', hr, gw, hl⟩ := Vl.take_ok A1.R A1.p t
  exact ⟨F', R', hr, gw.ext (fun a ha => (A1.f e a ha).symm) A1.e⟩
theorem pi_valV (he : PE X e (tE X cls exc W G C xa)) : PI X tg e (tIt X cls exc W G C false (.val xa)) := by
  refine ⟨fun pins s σ H R I ⟨r, F, fp, RR, g⟩ => ?_⟩
  rw [evI] at g
  have t1 : tE X cls exc W G C xa σ H _ := step (P' := PIt (zx X cls exc) false) RR (.refl ..) g
  refine thn (he.run pins s σ H _ I t1) fun v s1 ⟨x, H1, I1, r1, va, r2, F1, fp1, f1, A1, g1⟩ => ?_
  split at g1
  · rename_i d r3 ht
    obtain ⟨ds, hds, g2⟩ := g1.orBad
    obtain ⟨F3, R3, hr, e3⟩ := take_it A1 (.refl ..) ht
    have fin : ∀ J, ItOk (zx X cls exc) J F3 ds false → R J H1 := fun J hJ => g2 J [] F3 H1 fp1 e3 R3 ⟨hJ, rfl⟩ fun _ z => nomatch z
    cases hr with
    | lst h1 h2 =>
      cases hds
      cases r1
      obtain ⟨its, rv, p, hz⟩ := I1.list (show SqL X.K H1 _ _ from .inl (.of (R3.same _ _ h1)))
      exact wpAny_pyIter_list p.isList (pi_one (tk := s1.toks) I1 _ (turn_list _ _) ⟨_, Heap.get?_push_size _ rfl, rfl, rfl⟩ (fin _ (it_list h1 h2)))
    | tup h1 h2 =>
      cases hds
      cases r1
      obtain ⟨its, rv, p, hz⟩ := I1.tuple (Same.tup R3.same h1).sqT
      exact wpAny_pyIter_tuple p (pi_one (tk := s1.toks) I1 _ (turn_tuple _ _) ⟨_, Heap.get?_push_size _ rfl, rfl, rfl⟩ (fin _ (it_tup h1 h2)))
    | str z =>
      unfold itemsOf at hds
      dsimp only at hds
      split at hds
      · cases hds
        obtain ⟨t, rfl⟩ := r1
        cases ha : z.cps.all (· < 128)
        · exact wpAny_pyIter_wide ha (pi_one (tk := s1.toks) I1 _ (turn_str _ z t "str_iterator" (.inr rfl)) ⟨_, Heap.get?_push_size _ rfl, rfl, rfl⟩ (fin _ it_str))
        · exact wpAny_pyIter_ascii ha (pi_one (tk := s1.toks) I1 _ (turn_str _ z t "str_ascii_iterator" (.inl rfl)) ⟨_, Heap.get?_push_size _ rfl, rfl, rfl⟩ (fin _ it_str))
      · cases hds
    | @dct d o es ep kvs h1 h2 h3 h4 =>
      cases hds
      cases r1
      obtain ⟨ks, k1, k2⟩ := h2.keys
      have hgd : s1.heap.get? d = some o := (I1.hok d _ (R3.same _ _ h1.at_)).1
      exact iter_keys h1.sys hgd h1.ex h1.dat (pi_one (tk := s1.toks) I1 _ (turn_keysR _ h1.dat k2) ⟨_, Heap.get?_push_size _ rfl, rfl, rfl⟩ (fin _ (it_keys (es := es) (ep := ep) h1.at_ k1)))
    | _ => cases hds
  · exact g1.elim
/-- range(n), range(m, n) -/
theorem pi_rng1V (hg : Gl X "range") (hm : X.mg "range" = none) (ha : PE X a (tE X cls exc W G C xa)) (hs : starEach [a] X.env = [(false, eval a X.env)] := by rfl) : PI X tg (.Call (.Name "range" p) [a] [] pos) (tIt X cls exc W G C false (.range1 xa)) := by
  refine ⟨fun pins s σ H R I ⟨r, F, fp, RR, g⟩ => (pi_range1 hg hm (pa_cons ha pa_nil hs) hs).run pins s σ H R I ?_⟩
  rw [evI] at g
  obtain ⟨r0, F0, fp0, R0, g0⟩ := step (P' := PIt (zx X cls exc) false) RR (.refl ..) g
  refine ⟨r0, F0, fp0, R0, g0.mono fun x H1 ⟨va, r1, F1, fp1, f1, A1, g1⟩ => ?_⟩
  split at g1
  · rename_i n hn
    obtain ⟨ds, hds, g2⟩ := g1.orBad
    have hx := A1.p.view A1.R hn
    cases hx
    have ok := (rng_rep (Z := zx X cls exc) (F := F1) hds).1
    have it := it_rng (Z := zx X cls exc) (F := F1) hds
    rw [Int.sub_zero] at it
    exact ⟨n, rfl, ok.2.2.1, ok.2.2.2.1, g2 _ [] F1 H1 fp1 A1.e A1.R ⟨it, rfl⟩ fun _ z => nomatch z⟩
  · exact g1.elim
theorem pi_rng2V (hg : Gl X "range") (hm : X.mg "range" = none) (ha : PE X a (tE X cls exc W G C xa)) (hb : PE X b (tE X cls exc W G C xb)) (hs : starEach [a, b] X.env = [(false, eval a X.env), (false, eval b X.env)] := by rfl) (hs2 : starEach [b] X.env = [(false, eval b X.env)] := by rfl) :
    PI X tg (.Call (.Name "range" p) [a, b] [] pos) (tIt X cls exc W G C false (.range2 xa xb)) := by
  refine ⟨fun pins s σ H R I ⟨r, F, fp, RR, g⟩ => (pi_range2 hg hm (pa_cons ha (pa_cons hb pa_nil hs2) (by rw [hs, hs2])) hs hs2).run pins s σ H R I ?_⟩
  rw [evI] at g
  obtain ⟨r0, F0, fp0, R0, g0⟩ := step (P' := PIt (zx X cls exc) false) RR (.refl ..) g
  refine ⟨r0, F0, fp0, R0, g0.mono fun x H1 ⟨va, r1, F1, fp1, f1, A1, g1⟩ => ?_⟩
  obtain ⟨r2, F2, fp2, R2, g2⟩ := step (P' := PIt (zx X cls exc) false) A1.R A1.e g1
  refine ⟨r2, F2, fp2, R2, g2.mono fun y H2 ⟨vb, r3, F3, fp3, f3, A3, g3⟩ => ?_⟩
  split at g3
  · rename_i m n hm' hn
    obtain ⟨ds, hds, g4⟩ := g3.orBad
    have hx := (A1.p.ext A3.e1).view A3.R hm'
    have hy := A3.p.view A3.R hn
    cases hx
    cases hy
    have ok := (rng_rep (Z := zx X cls exc) (F := F3) hds).1
    exact ⟨m, n, rfl, ⟨ok.1, ok.2.1, ok.2.2.1, ok.2.2.2.1⟩, g4 _ [] F3 H2 fp3 A3.e A3.R ⟨it_rng hds, rfl⟩ fun _ z => nomatch z⟩
  · exact g3.elim
/-- enumerate(e) -/
theorem pi_enumV {tpos : Pos} {elts : List Expr} {kk : Nat} (hg : Gl X "enumerate") (hm : X.mg "enumerate" = none) (ha : PE X a (tE X cls exc W G C xa)) (hs : starEach [a] X.env = [(false, eval a X.env)] := by rfl) :
    PI X (.Tuple elts kk tpos) (.Call (.Name "enumerate" p) [a] [] pos) (tIt X cls exc W G C true (.enum xa)) := by
  refine ⟨fun pins s σ H R I ⟨r, F, fp, RR, g⟩ => ?_⟩
  rw [evI] at g
  obtain ⟨r0, F0, fp0, R0, g0⟩ := step (P' := PIt (zx X cls exc) true) RR (.refl ..) g
  have tt : tCons (tE X cls exc W G C xa) tNil σ H (fun vs H1 => ∃ v, vs = [v] ∧ ∃ x r' F' fp' fr, Aft (Z := zx X cls exc) (σ := σ) (PVl (zx X cls exc) σ) ⟨r, fp, F, H⟩ ⟨r, fp, F, H⟩ v H1 x r' F' fp' fr ∧
      GdG (zx X cls exc) σ (PIt (zx X cls exc) true) ⟨r, fp, F, H⟩ W R (match Vl.take r' x with
        | some (d, r2) => orBad (seqOf d) fun ds => Res.ok (enumD ds) r2
        | none => Res.bad)) := ⟨r0, F0, fp0, R0, g0.mono fun x H1 h => ⟨x, rfl, h⟩⟩
  refine Call_ (ld_blt I hg hm boot_enumerate (PyProof.Rows.callWith_type1 (thn ((pa_cons ha pa_nil hs).run pos pins s σ H _ I tt) fun us s1 ⟨vs, H1, I1, r1, v, e1, va, r2, F1, fp1, f1, A1, g1⟩ => ?_) hs rfl))
  subst e1
  obtain ⟨u, rfl, ru⟩ := vals1 r1
  split at g1
  · rename_i d r3 ht
    obtain ⟨ds, hds, g2⟩ := g1.orBad
    obtain ⟨F3, R3, hr, e3⟩ := take_it A1 (.refl ..) ht
    have fin : ∀ J, ItOk (zx X cls exc) J F3 (enumD ds) true → R J H1 := fun J hJ => g2 J [] F3 H1 fp1 e3 R3 ⟨hJ, rfl⟩ fun _ z => nomatch z
    have two : ∀ b ∈ [s1.heap.objs.size + 1, s1.heap.objs.size], FpOk X pins H1 b := fun b hb => by
      have e' : b = s1.heap.objs.size + 1 ∨ b = s1.heap.objs.size := by simpa using hb
      have hle : s1.heap.objs.size ≤ b := by
        rcases e' with z | z
        · rw [z]; exact Nat.le_add_right _ _
        · rw [z]; exact Nat.le_refl _
      exact I1.fpOk hle (I1.hok.fresh hle)
    cases hr with
    | lst h1 h2 =>
      cases hds
      cases ru
      obtain ⟨its, rv, p', hz⟩ := I1.list (show SqL X.K H1 _ _ from .inl (.of (R3.same _ _ h1)))
      refine call_enumerate_list p'.isList fun h' he hit hsz hk => wpAny_pyIter_enum he ?_
      exact ⟨s1.heap.objs.size + 1, [s1.heap.objs.size + 1, s1.heap.objs.size], _, _, H1, rfl, I1.kept (t' := s1.toks) hk, turn_enum _ (s1.heap.objs.size + 1) s1.heap.objs.size, ⟨⟨.none, he⟩, hit, Nat.succ_ne_self _⟩, two, fin _ (it_enumL h1 h2)⟩
    | @tup a' zs ds' h1 h2 =>
      cases hds
      cases ru
      obtain ⟨its, rv, p', hz⟩ := I1.tuple (Same.tup R3.same h1).sqT
      refine call_enumerate_tuple p' fun h' he hit hsz hk => wpAny_pyIter_enum he ?_
      have hlt : a' < s1.heap.objs.size := by
        obtain ⟨o, ho, _⟩ := p'
        exact Heap.lt_size ho
      exact ⟨s1.heap.objs.size + 1, [s1.heap.objs.size + 1, s1.heap.objs.size], _, _, H1, rfl, I1.kept (t' := s1.toks) hk, turn_enumT a' (s1.heap.objs.size + 1) s1.heap.objs.size, ⟨⟨.none, he⟩, hit, Nat.succ_ne_self _, Nat.ne_of_lt hlt, Nat.ne_of_gt (Nat.lt_succ_of_lt hlt)⟩, two, fin _ (it_enumT h1 h2)⟩
    | _ => cases hds
  · exact g1.elim
end
end VL
end
section
/-! V20: for; list comprehensions. -/
namespace VL
open PySem PySem.Spec PyProof.Rows L2
section
variable {X : Cx} {cls : Clz} {exc : List (Addr × List Str)} {W : WX} {G : List Fd} {C : List D} {e a b c elt tg iter : Expr} {es ifs : List Expr} {xa xb xc x : Ex} {xs : Ar} {pos p : Pos} {f : Str} {pr : Bool}
variable {Z : Zx} {r r' r2 : Fr} {σ σ' : L2.St} {F F' F2 H H' H2 : Hp} {fp fp' fp2 : Nat → List Addr} {s : Shared} {pins : List (Addr × Obj)}
theorem YOk.mono {F' : Hp} {v : V} {d : D} (s : Same F F') : ∀ {pr : Bool}, YOk Z F H v d H' pr → YOk Z F' H v d H' pr
  | false, ⟨h1, h2⟩ => ⟨h1, h2.mono s⟩
  | true, ⟨T, x, y, dx, dy, h1, h2, h3, h4, h5, h6⟩ => ⟨T, x, y, dx, dy, h1, h2, h3, h4, h5.mono s, h6.mono s⟩
/-- what a turn gives, into the target -/
def gY (Z : Zx) (t : Tg) (pr : Bool) : TG := fun v σ H' Q => ∃ r F fp d r' H, Rel Z r σ F H fp ∧ YOk Z F H v d H' pr ∧ putT t d r = some r' ∧
  ∀ σ', Rel Z r' σ' F H' fp → (∀ a, OwnS r' fp a → OwnS r fp a) → (∀ j, j ∉ tgS t → σ'[j]? = σ[j]?) → Q σ' H'
theorem pg_Y {t : Tg} (ht : TgOk X cls tg t) (hpr : pr = true → ∃ ts, t = .tp ts) : PG X tg (gY (zx X cls exc) t pr) := by
  cases pr with
  | false => exact (pg_T (cls := cls) (exc := exc) ht).cons fun v σ H Q ⟨r, F, fp, d, r', H0, R, ⟨h1, h2⟩, hp, q⟩ => ⟨r, F, fp, d, r', by rw [h1]; exact R, h2, hp, q⟩
  | true =>
    obtain ⟨ts, rfl⟩ := hpr rfl
    cases ht with
    | tp hc h hst hn =>
      refine (pg_seq hc (pgs_T (cls := cls) (exc := exc) h) hn hst).cons fun v σ H Q ⟨r, F, fp, d, r', H0, R, ⟨T, x, y, dx, dy, h1, h2, h3, h4, h5, h6⟩, hp, q⟩ => ?_
      subst h1 h3 h4
      unfold putT at hp
      have n := New.lst (o := .tup [x, y]) R.same h2
      refine ⟨T, [x, y], rfl, .inl (.inl (.of upd_same)), ?_, r, F, fp, [dx, dy], r', n.rel R, .cons h5 (.cons h6 .nil), hp, fun σ' R' o' j' => q σ' R' o' j'⟩
      have := putTs_len h hp
      simpa using this
theorem YOk.new {v : V} {d : D} (R : Rel Z r σ F H fp) : ∀ {pr : Bool}, YOk Z F H v d H' pr → New F H F H'
  | false, ⟨h1, _⟩ => by subst h1; exact .refl R.same
  | true, ⟨T, x, y, dx, dy, h1, h2, h3, _⟩ => by subst h3; exact New.lst R.same h2
theorem GdS.seqF {b : Bs} {D D' : Ends} {o : Out} {k : Fr → Out} (g : GdS Z b W D (o.seq k)) (hnx : ∀ σ' H' r' F' fp', Rel Z r' σ' F' H' fp' → Same b.F F' → GdS Z ⟨r', fp', F', H'⟩ W D (k r') → D'.nx σ' H') (hrt : D'.rt = D.rt) : GdS Z b W D' o := by
  cases o with
  | nx r' => exact fun σ' F' H' fp' e R => hnx σ' H' r' F' fp' R e.sF (GdS.shift (b1 := ⟨r', fp', F', H'⟩) g e)
  | rt o d r' => exact fun v fr σ' F' H' fp' e R p f => by rw [hrt]; exact g v fr σ' F' H' fp' e R p f
  | exc c fs r' => exact g
  | bad => exact g
mutual
theorem putT_len : ∀ {t : Tg} {d : D} {r r' : Fr}, putT t d r = some r' → r'.length = r.length
  | .nm i, d, r, r', h => by unfold putT at h; cases h; rw [List.length_set]
  | .tp ts, .tup ds, r, r', h => by unfold putT at h; exact putTs_flen h
  | .tp ts, .non, _, _, h => by unfold putT at h; cases h
  | .tp ts, .bl _, _, _, h => by unfold putT at h; cases h
  | .tp ts, .int _, _, _, h => by unfold putT at h; cases h
  | .tp ts, .str _, _, _, h => by unfold putT at h; cases h
  | .tp ts, .lst _, _, _, h => by unfold putT at h; cases h
  | .tp ts, .dct _, _, _, h => by unfold putT at h; cases h
  | .tp ts, .obj _ _, _, _, h => by unfold putT at h; cases h
  | .tp ts, .rng _ _ _ _, _, _, h => by unfold putT at h; cases h
theorem putTs_flen : ∀ {ts : Tgs} {ds : List D} {r r' : Fr}, putTs ts ds r = some r' → r'.length = r.length
  | .nil, [], r, r', h => by unfold putTs at h; cases h; rfl
  | .nil, _ :: _, _, _, h => by unfold putTs at h; cases h
  | .cons t ts, [], _, _, h => by unfold putTs at h; cases h
  | .cons t ts, d :: ds, r, r', h => by
    unfold putTs at h
    split at h
    · rename_i r1 h1
      rw [putTs_flen h, putT_len h1]
    · cases h
end
theorem drop_at {ds : List D} {i : Nat} {d : D} (h : ds[i]? = some d) : ds.drop i = d :: ds.drop (i + 1) := by
  obtain ⟨h1, h2⟩ := List.getElem?_eq_some_iff.mp h
  rw [List.drop_eq_getElem_cons h1, h2]
variable {sts : List Stmt} {us : Sts} {it : VL.It} {t : Tg}
theorem ps_forV (hp : PassesOwn (model X.prog X.w) X.A X.env X.xe) (hc : X.calm = true) (hi : PI X tg iter (tIt X cls exc W G C pr it)) (ht : TgOk X cls tg t) (hpr : pr = true → ∃ ts, t = .tp ts) (hb : PSs X sts (tSs X cls exc W G C us))
    (hs : ∀ x, foldedSetIterable iter X.env x = pure x := by intro _; rfl) : PS X (.For tg iter sts [] pos) (tSt X cls exc W G C (.for it t us)) := by
  refine (ps_for hp hc hi (pg_Y (cls := cls) (exc := exc) ht hpr) hb hs).cons fun D σ H ⟨r, F, fp, R, g⟩ => ?_
  rw [evS] at g
  refine ⟨r, F, fp, R, (GdS.out (b1 := ⟨r, fp, F, H⟩) g (.refl ..)).mono fun J H1 ⟨ds, r1, F1, fp1, f1, A1, g1⟩ => ?_⟩
  obtain ⟨hJ, rfl⟩ := A1.p
  refine ⟨fun i m σ' H' => m + i = ds.length ∧ ∃ r' F' fp', Rel (zx X cls exc) r' σ' F' H' fp' ∧ Same F1 F' ∧ GdS (zx X cls exc) ⟨r', fp', F', H'⟩ W D (loopF t (fun r => evSs G C us r) (ds.drop i) r'), ⟨ds.length, rfl, r1, F1, fp1, A1.R, Same.refl _, by rw [List.drop_zero]; exact g1.shift (b1 := ⟨r1, fp1, F1, H1⟩) A1.e⟩, ?_⟩
  rintro i m σ2 H2 ⟨hm, r2, F2, fp2, R2, s2, g2⟩
  obtain ⟨j1, j2, j3⟩ := hJ i H2 (s2.trans R2.same)
  by_cases hi : i < ds.length
  · have hd : ds[i]? = some ds[i] := List.getElem?_eq_getElem hi
    rw [drop_at hd] at g2
    unfold loopF at g2
    refine .inr ⟨j1 hi, fun σ' H' => (m - 1) + (i + 1) = ds.length ∧ ∃ r' F' fp', Rel (zx X cls exc) r' σ' F' H' fp' ∧ Same F1 F' ∧ GdS (zx X cls exc) ⟨r', fp', F', H'⟩ W D (loopF t (fun r => evSs G C us r) (ds.drop (i + 1)) r'), fun σ' H' h => ⟨m - 1, by omega, h⟩, fun v H3 hy => ?_⟩
    have y := (j3 v H3 _ hy hd).mono s2
    split at g2
    · exact g2.elim
    · rename_i r3 hr3
      refine ⟨r2, F2, fp2, ds[i], r3, H2, R2, y, hr3, fun σ3 R3 o3 _ => ⟨r3, F2, fp2, R3, ?_⟩⟩
      have e3 : Ext r2 fp2 F2 H2 r3 fp2 F2 H3 := by
        have e := (y.new R2).ext (r := r2) (fp := fp2)
        exact ⟨e.sF, e.new, e.keep, fun a z => e.shr a (o3 a z)⟩
      exact (GdS.shift (b1 := ⟨r3, fp2, F2, H3⟩) g2 e3).seqF (fun σ' H' r' F' fp' R' s' g' => ⟨by omega, r', F', fp', R', s2.trans s', g'⟩) rfl
  · have hi' : i = ds.length := by omega
    refine .inl ⟨j2 hi', ?_⟩
    rw [hi', List.drop_length] at g2
    unfold loopF at g2
    exact g2.nx (.refl ..) R2
end
end VL
end
section
/-! V21: list comprehensions. -/
namespace VL
open PySem PySem.Spec PyProof.Rows L2
section
variable {X : Cx} {cls : Clz} {exc : List (Addr × List Str)} {W W' : WX} {G : List Fd} {C : List D} {e a b c elt tg iter : Expr} {es ifs : List Expr} {xa xb xc x xe : Ex} {xs : Ar} {pos p : Pos} {f : Str} {pr : Bool}
variable {Z : Zx} {r r' r2 q : Fr} {σ σ' : L2.St} {F F' F2 H H' H2 : Hp} {fp fp' fp2 : Nat → List Addr} {s : Shared} {pins : List (Addr × Obj)}
abbrev W0 : WX := fun _ _ _ _ => False
theorem GdG.bndC {α α' β β' : Type} {P : PrG α β} {P' : PrG α' β'} {b b1 : Bs} {Q : β' → Hp → Prop} {m : Res α} {k : α → Fr → Res α'} (g : GdG Z σ P' b W Q (m.calm.bnd k)) (e : Ext b.r b.fp b.F b.H b1.r b1.fp b1.F b1.H) :
    GdG Z σ' P b1 W' (fun y H' => ∃ x r' F' fp' fr, Aft (Z := Z) (σ := σ') P b b1 y H' x r' F' fp' fr ∧ GdG Z σ P' b W Q (k x r')) m := by
  cases m with
  | ok x r' => exact fun y fr F' H' fp' e1 R p f => ⟨x, r', F', fp', fr, ⟨e.trans e1, e1, R, p, f⟩, g⟩
  | exc c fs r' => exact g.elim
  | bad => exact g.elim
theorem wipeF_get (r : Fr) : ∀ (vs : List Nat) (j : Nat), (wipeF r vs)[j]? = if j ∈ vs then (r[j]?).map (fun _ => none) else r[j]?
  | [], j => by simp [wipeF]
  | v :: vs, j => by
    unfold wipeF
    by_cases h : v = j
    · subst h
      rw [if_pos List.mem_cons_self]
      by_cases hl : v < r.length
      · rw [List.getElem?_set_self (by
          have : (wipeF r vs).length = r.length := by
            clear hl
            induction vs with
            | nil => rfl
            | cons u us ih => unfold wipeF; rw [List.length_set]; exact ih
          rw [this]; exact hl), List.getElem?_eq_getElem hl]
        rfl
      · have hl' : (wipeF r vs).length = r.length := by
          clear hl
          induction vs with
          | nil => rfl
          | cons u us ih => unfold wipeF; rw [List.length_set]; exact ih
        rw [List.getElem?_eq_none (by rw [List.length_set, hl']; omega), List.getElem?_eq_none (by omega)]
        rfl
    · rw [List.getElem?_set_ne h, wipeF_get r vs j]
      by_cases hm : j ∈ vs
      · rw [if_pos hm, if_pos (List.mem_cons_of_mem _ hm)]
      · rw [if_neg hm, if_neg fun z => by rcases List.mem_cons.mp z with z | z; exact h z.symm; exact hm z]
theorem wipeF_len (r : Fr) : ∀ vs : List Nat, (wipeF r vs).length = r.length
  | [] => rfl
  | v :: vs => by unfold wipeF; rw [List.length_set]; exact wipeF_len r vs
theorem restF_len (q r : Fr) : ∀ vs : List Nat, (restF q r vs).length = r.length
  | [] => rfl
  | v :: vs => by unfold restF; rw [List.length_set]; exact restF_len q r vs
theorem restF_get (q r : Fr) : ∀ (vs : List Nat) (j : Nat), (restF q r vs)[j]? = if j ∈ vs then (r[j]?).map (fun _ => (q[j]?).getD none) else r[j]?
  | [], j => by simp [restF]
  | v :: vs, j => by
    unfold restF
    by_cases h : v = j
    · subst h
      rw [if_pos List.mem_cons_self]
      by_cases hl : v < r.length
      · rw [List.getElem?_set_self (by rw [restF_len]; exact hl), List.getElem?_eq_getElem hl]
        rfl
      · have h1 : ((restF q r vs).set v (q[v]?.getD none))[v]? = none := List.getElem?_eq_none (by rw [List.length_set, restF_len]; omega)
        have h2 : r[v]? = none := List.getElem?_eq_none (by omega)
        rw [h1, h2]
        rfl
    · rw [List.getElem?_set_ne h, restF_get q r vs j]
      by_cases hm : j ∈ vs
      · rw [if_pos hm, if_pos (List.mem_cons_of_mem _ hm)]
      · rw [if_neg hm, if_neg fun z => by rcases List.mem_cons.mp z with z | z; exact h z.symm; exact hm z]
theorem wipeF_some {vs : List Nat} {j : Nat} {o : Bool} {d : D} (h : (wipeF r vs)[j]? = some (some (o, d))) : j ∉ vs ∧ r[j]? = some (some (o, d)) := by
  rw [wipeF_get] at h
  by_cases hm : j ∈ vs
  · rw [if_pos hm] at h
    cases hr : r[j]? with
    | none => rw [hr] at h; cases h
    | some y => rw [hr] at h; cases h
  · rw [if_neg hm] at h
    exact ⟨hm, h⟩
theorem own_wipe {vs : List Nat} {a : Addr} (h : OwnS (wipeF r vs) fp a) : OwnS r fp a := by
  obtain ⟨j, d, h1, h2⟩ := h
  exact ⟨j, d, (wipeF_some h1).2, h2⟩
/-- the block's own names forgotten -/
theorem Rel.wipe (R : Rel Z r σ F H fp) (vs : List Nat) (np : ∀ i ∈ vs, NoPin Z.cls i) : Rel Z (wipeF r vs) (L2.wipe σ vs) F H fp := by
  refine ⟨fun ip hm => by rw [L2.wipe_out (fun z => (np _ z).ne ip hm rfl)]; exact R.pin ip hm, R.same, by rw [wipeF_len, L2.wipe_length]; exact R.len, fun j e h => ?_, fun j e h => ?_, fun j k e e' hjk h1 h2 => R.dis j k e e' hjk (wipeF_some h1).2 (wipeF_some h2).2⟩
  · obtain ⟨h1, h2⟩ := wipeF_some h
    obtain ⟨v, h3, h4⟩ := R.fro j e h2
    exact ⟨v, by rw [L2.wipe_out h1]; exact h3, h4⟩
  · obtain ⟨h1, h2⟩ := wipeF_some h
    obtain ⟨v, h3, h4⟩ := R.own j e h2
    exact ⟨v, by rw [L2.wipe_out h1]; exact h3, h4⟩
theorem own_rest {vs : List Nat} {a : Addr} (hq : ownFree q vs = true) (h : OwnS (restF q r vs) fp a) : OwnS (wipeF r vs) fp a := by
  obtain ⟨j, d, h1, h2⟩ := h
  rw [restF_get] at h1
  by_cases hm : j ∈ vs
  · rw [if_pos hm] at h1
    have hown := List.all_eq_true.mp hq j hm
    cases hr : r[j]? with
    | none => rw [hr] at h1; cases h1
    | some y =>
      rw [hr] at h1
      have h1' : (q[j]?).getD none = some (true, d) := Option.some.inj h1
      cases hqj : q[j]? with
      | none => rw [hqj] at h1'; cases h1'
      | some w =>
        rw [hqj] at h1'
        have : w = some (true, d) := h1'
        subst this
        rw [hqj] at hown
        cases hown
  · rw [if_neg hm] at h1
    exact ⟨j, d, by rw [wipeF_get, if_neg hm]; exact h1, h2⟩
/-- .. and as they were -/
theorem Rel.rest {vs : List Nat} {F0 H0 : Hp} {fp0 : Nat → List Addr} (Q : Rel Z q σ F0 H0 fp0) (sF : Same F0 F) (hq : ownFree q vs = true) (R : Rel Z (wipeF r vs) (L2.wipe σ vs) F H fp) : Rel Z (restF q r vs) σ F H fp := by
  have out : ∀ {j : Nat} {o : Bool} {d : D}, (restF q r vs)[j]? = some (some (o, d)) → (j ∉ vs ∧ (wipeF r vs)[j]? = some (some (o, d))) ∨ (j ∈ vs ∧ q[j]? = some (some (o, d))) := fun {j o d} h => by
    rw [restF_get] at h
    by_cases hm : j ∈ vs
    · rw [if_pos hm] at h
      cases hr : r[j]? with
      | none => rw [hr] at h; cases h
      | some y =>
        rw [hr] at h
        have h' : (q[j]?).getD none = some (o, d) := Option.some.inj h
        cases hqj : q[j]? with
        | none => rw [hqj] at h'; cases h'
        | some w =>
          rw [hqj] at h'
          have : w = some (o, d) := h'
          subst this
          exact .inr ⟨hm, rfl⟩
    · rw [if_neg hm] at h
      exact .inl ⟨hm, by rw [wipeF_get, if_neg hm]; exact h⟩
  have noOwn : ∀ {j : Nat} {d : D}, j ∈ vs → q[j]? = some (some (true, d)) → False := fun {j d} hm h => by
    have := List.all_eq_true.mp hq j hm
    rw [h] at this
    cases this
  refine ⟨Q.pin, R.same, by rw [restF_len]; have := R.len; rw [wipeF_len, L2.wipe_length] at this; exact this, fun j e h => ?_, fun j e h => ?_, fun j k e e' hjk h1 h2 => ?_⟩
  · rcases out h with ⟨h1, h2⟩ | ⟨h1, h2⟩
    · obtain ⟨v, h3, h4⟩ := R.fro j e h2
      exact ⟨v, by rw [L2.wipe_out h1] at h3; exact h3, h4⟩
    · obtain ⟨v, h3, h4⟩ := Q.fro j e h2
      exact ⟨v, h3, h4.mono sF⟩
  · rcases out h with ⟨h1, h2⟩ | ⟨h1, h2⟩
    · obtain ⟨v, h3, h4⟩ := R.own j e h2
      exact ⟨v, by rw [L2.wipe_out h1] at h3; exact h3, h4⟩
    · exact (noOwn h1 h2).elim
  · rcases out h1 with ⟨a1, a2⟩ | ⟨a1, a2⟩
    · rcases out h2 with ⟨b1, b2⟩ | ⟨b1, b2⟩
      · exact R.dis j k e e' hjk a2 b2
      · exact (noOwn b1 b2).elim
    · exact (noOwn a1 a2).elim
/-- an object that no slot has stays -/
theorem Ext.out (x : Ext r fp F H r' fp' F' H') {a : Addr} {o : HO} (h1 : H a = some o) (h2 : ¬ OwnS r fp a) (h3 : F a = none) : H' a = some o ∧ ¬ OwnS r' fp' a ∧ F' a = none := by
  refine ⟨x.keep a o h1 h2, fun z => ?_, ?_⟩
  · rcases x.shr a z with z | z
    · rw [h1] at z; cases z
    · exact h2 z
  · cases q : F' a with
    | none => rfl
    | some u =>
      rcases x.new a u q h3 with z | z
      · rw [h1] at z; cases z
      · exact (h2 z).elim
/-- an object that no slot has is written -/
theorem Rel.other (R : Rel Z r σ F H fp) {a : Addr} {o : HO} (h2 : ¬ OwnS r fp a) (h3 : F a = none) : Rel Z r σ F (upd H a o) fp := by
  refine ⟨R.pin, fun c u h => ?_, R.len, R.fro, fun i d h => ?_, R.dis⟩
  · have : c ≠ a := fun z => by rw [z, h3] at h; cases h
    rw [upd_ne this]
    exact R.same c u h
  · obtain ⟨p, k1, k2, k3⟩ := R.own i d h
    exact ⟨p, k1, k2.mono (Same.refl F) fun c hc => upd_ne fun z => h2 ⟨i, d, h, by rw [← z]; exact hc⟩, k3⟩
theorem Ext.other {b : Bs} (x : Ext b.r b.fp b.F b.H r' fp' F' H') {a : Addr} {o : HO} (h : b.H a = none ∨ OwnS b.r b.fp a) : Ext b.r b.fp b.F b.H r' fp' F' (upd H' a o) := by
  refine ⟨x.sF, x.new, fun c u h1 h2 => ?_, x.shr⟩
  have : c ≠ a := fun z => by
    subst z
    rcases h with h | h
    · rw [h1] at h; cases h
    · exact h2 h
  rw [upd_ne this]
  exact x.keep c u h1 h2
/-! ### tests of a comprehension -/
def tTs (X : Cx) (cls : Clz) (exc : List (Addr × List Str)) (G : List Fd) (C : List D) (x : Oe) : TT := tB (tV (zx X cls exc) W0 (evT G C x))
theorem pts_noV : PTs X [] (tTs X cls exc G C .no) := ⟨fun pins s σ H Q I ⟨r, F, fp, R, g⟩ => pts_nil.run pins s σ H Q I (by
  rw [evT] at g
  obtain ⟨k, e, q⟩ := fro_now (v := .bl true) g (.refl ..) R (.bl true)
  cases e
  exact q)⟩
theorem pts_soV (h : PT X c (tB (tE X cls exc W0 G C x))) : PTs X [c] (tTs X cls exc G C (.so x)) := ⟨fun pins s σ H Q I ⟨r, F, fp, R, g⟩ => (pts_one h).run pins s σ H Q I ⟨r, F, fp, R, by rw [evT] at g; exact g⟩⟩
theorem wipe_eq {σ2 : L2.St} {vs : List Nat} (hl : σ2.length = σ.length) (h : ∀ j, j ∉ vs → σ2[j]? = σ[j]?) : L2.wipe σ2 vs = L2.wipe σ vs := by
  have wg : ∀ (τ : L2.St) (ws : List Nat) (j : Nat), (L2.wipe τ ws)[j]? = if j ∈ ws then (τ[j]?).map (fun _ => none) else τ[j]? := by
    intro τ ws
    induction ws with
    | nil => intro j; simp [L2.wipe]
    | cons v ws ih =>
      intro j
      unfold L2.wipe
      by_cases hv : v = j
      · subst hv
        rw [if_pos List.mem_cons_self]
        by_cases hlt : v < τ.length
        · rw [List.getElem?_set_self (by rw [L2.wipe_length]; exact hlt), List.getElem?_eq_getElem hlt]
          rfl
        · rw [List.getElem?_eq_none (by rw [List.length_set, L2.wipe_length]; omega), List.getElem?_eq_none (by omega)]
          rfl
      · rw [List.getElem?_set_ne hv, ih j]
        by_cases hm : j ∈ ws
        · rw [if_pos hm, if_pos (List.mem_cons_of_mem _ hm)]
        · rw [if_neg hm, if_neg fun z => by rcases List.mem_cons.mp z with z | z; exact hv z.symm; exact hm z]
  apply List.ext_getElem?
  intro j
  rw [wg, wg]
  by_cases hm : j ∈ vs
  · rw [if_pos hm, if_pos hm]
    by_cases hj : j < σ.length
    · rw [List.getElem?_eq_getElem hj, List.getElem?_eq_getElem (by rw [hl]; exact hj)]
      rfl
    · rw [List.getElem?_eq_none (by omega), List.getElem?_eq_none (by omega)]
  · rw [if_neg hm, if_neg hm]
    exact h j hm
variable {it : VL.It} {t : Tg} {tst : Oe} {own : List Nat}
theorem conv_lc (hnp : ∀ i ∈ own, NoPin cls i) (ht : ∀ j ∈ tgS t, j ∈ own) (σ : L2.St) (H : Hp) (Q : VK) (h : tE X cls exc W G C (.cmpr own it t tst xe) σ H Q) :
    tLc (tIt X cls exc W G C pr it) (gY (zx X cls exc) t pr) (tTs X cls exc G C tst) (tE X cls exc W0 G C xe) own σ H Q := by
  obtain ⟨r, F, fp, R, g⟩ := h
  rw [evE] at g
  refine ⟨r, F, fp, R, (GdG.bnd (b1 := ⟨r, fp, F, H⟩) g (.refl ..)).mono fun J H1 ⟨ds, r1, F1, fp1, f1, A1, g1⟩ => ?_⟩
  obtain ⟨hJ, rfl⟩ := A1.p
  intro D hD
  have hq : ownFree r1 own = true := by
    by_cases hh : ownFree r1 own = true
    · exact hh
    · rw [if_neg hh] at g1
      exact g1.elim
  rw [if_pos hq] at g1
  have hbD : H D = none ∨ OwnS r fp D := A1.e.back (.inl hD)
  have nD : ¬ OwnS r1 fp1 D := fun z => by
    obtain ⟨o, ho⟩ := OwnS.some A1.R z
    rw [hD] at ho; cases ho
  have fD : F1 D = none := A1.R.same.free hD
  refine ⟨fun i m H' => m + i = ds.length ∧ ∃ r' F' fp' acc ys, Rel (zx X cls exc) (wipeF r' own) (L2.wipe σ own) F' H' fp' ∧ Same F1 F' ∧ H' D = some (.lst ys) ∧ RepL (zx X cls exc) F' acc ys ∧ ys.length ≤ sizeLine ∧ F' D = none ∧ ¬ OwnS (wipeF r' own) fp' D ∧
    Ext r fp F H (wipeF r' own) fp' F' H' ∧ GdG (zx X cls exc) σ (PVl (zx X cls exc) σ) ⟨r, fp, F, H⟩ W Q ((loopC own t (fun r => evT G C tst r) (fun r => evE G C xe r) (ds.drop i) acc r').bnd fun xs r2 => .ok (.own (.lst xs)) (restF r1 r2 own)), ⟨ds.length, rfl, r1, F1, fp1, [], [], ?_, Same.refl _, upd_same, .nil, Nat.zero_le _, fD, fun z => nD (own_wipe z), ?_, by rw [List.drop_zero]; exact g1⟩, ?_⟩
  · exact (A1.R.wipe own hnp).other (fun z => nD (own_wipe z)) fD
  · have e := Ext.other (b := ⟨r, fp, F, H⟩) (o := .lst []) A1.e hbD
    exact ⟨e.sF, e.new, e.keep, fun a z => e.shr a (own_wipe z)⟩
  rintro i m H2 ⟨hm, r2, F2, fp2, acc, ys, R2, s2, hL, hr, hz, fD2, nD2, e2, g2⟩
  obtain ⟨j1, j2, j3⟩ := hJ i H2 (s2.trans R2.same)
  by_cases hi : i < ds.length
  · have hd : ds[i]? = some ds[i] := List.getElem?_eq_getElem hi
    rw [drop_at hd] at g2
    unfold loopC at g2
    have again : ∀ {r4 : Fr} {σ4 : L2.St} {F4 H4 : Hp} {fp4 : Nat → List Addr} {acc' : List VL.D} {ys' : List V}, Rel (zx X cls exc) r4 σ4 F4 H4 fp4 → L2.wipe σ4 own = L2.wipe σ own → Same F1 F4 → H4 D = some (.lst ys') → RepL (zx X cls exc) F4 acc' ys' → ys'.length ≤ sizeLine → F4 D = none → ¬ OwnS r4 fp4 D → Ext r fp F H r4 fp4 F4 H4 →
        GdG (zx X cls exc) σ (PVl (zx X cls exc) σ) ⟨r, fp, F, H⟩ W Q ((loopC own t (fun r => evT G C tst r) (fun r => evE G C xe r) (ds.drop (i + 1)) acc' r4).bnd fun xs r2 => .ok (.own (.lst xs)) (restF r1 r2 own)) →
        (m - 1) + (i + 1) = ds.length ∧ ∃ r' F' fp' acc ys, Rel (zx X cls exc) (wipeF r' own) (L2.wipe σ own) F' H4 fp' ∧ Same F1 F' ∧ H4 D = some (.lst ys) ∧ RepL (zx X cls exc) F' acc ys ∧ ys.length ≤ sizeLine ∧ F' D = none ∧ ¬ OwnS (wipeF r' own) fp' D ∧
    Ext r fp F H (wipeF r' own) fp' F' H4 ∧ GdG (zx X cls exc) σ (PVl (zx X cls exc) σ) ⟨r, fp, F, H⟩ W Q ((loopC own t (fun r => evT G C tst r) (fun r => evE G C xe r) (ds.drop (i + 1)) acc r').bnd fun xs r2 => .ok (.own (.lst xs)) (restF r1 r2 own)) := fun {r4 σ4 F4 H4 fp4 acc' ys'} R4 w4 s4 h4 hr4 hz4 f4 n4 e4 g4 =>
      ⟨by omega, r4, F4, fp4, acc', ys', by rw [← w4]; exact R4.wipe own hnp, s4, h4, hr4, hz4, f4, fun z => n4 (own_wipe z), ⟨e4.sF, e4.new, e4.keep, fun a z => e4.shr a (own_wipe z)⟩, g4⟩
    refine .inr ⟨j1 hi, fun H' => (m - 1) + (i + 1) = ds.length ∧ ∃ r' F' fp' acc ys, Rel (zx X cls exc) (wipeF r' own) (L2.wipe σ own) F' H' fp' ∧ Same F1 F' ∧ H' D = some (.lst ys) ∧ RepL (zx X cls exc) F' acc ys ∧ ys.length ≤ sizeLine ∧ F' D = none ∧ ¬ OwnS (wipeF r' own) fp' D ∧
    Ext r fp F H (wipeF r' own) fp' F' H' ∧ GdG (zx X cls exc) σ (PVl (zx X cls exc) σ) ⟨r, fp, F, H⟩ W Q ((loopC own t (fun r => evT G C tst r) (fun r => evE G C xe r) (ds.drop (i + 1)) acc r').bnd fun xs r2 => .ok (.own (.lst xs)) (restF r1 r2 own)), fun H' h => ⟨m - 1, by omega, h⟩, fun v H3 hy => ?_⟩
    have y := (j3 v H3 _ hy hd).mono s2
    split at g2
    · exact g2.elim
    · rename_i r3 hr3
      refine ⟨wipeF r2 own, F2, fp2, ds[i], r3, H2, R2, y, hr3, fun σ3 R3 o3 k3 => ?_⟩
      have w3 : L2.wipe σ3 own = L2.wipe σ own := by
        have h1 : σ3.length = (L2.wipe σ own).length := by
          have h2 : (L2.wipe σ own).length = σ.length := L2.wipe_length ..
          have h3 := R3.len
          have h4 := R2.len
          have h5 := putT_len hr3
          omega
        rw [wipe_eq h1 fun j hj => k3 j fun z => hj (ht j z)]
        exact wipe_eq (L2.wipe_length ..) fun j hj => L2.wipe_out hj
      refine ⟨w3, ?_⟩
      have e3a : Ext (wipeF r2 own) fp2 F2 H2 r3 fp2 F2 H3 := by
        have e := (y.new R2).ext (r := wipeF r2 own) (fp := fp2)
        exact ⟨e.sF, e.new, e.keep, fun a z => e.shr a (o3 a z)⟩
      have e3 := e2.trans e3a
      obtain ⟨hL3, nD3, fD3⟩ := e3a.out hL nD2 fD2
      have g3 : GdG (zx X cls exc) σ (PVl (zx X cls exc) σ) ⟨r, fp, F, H⟩ W Q ((evT G C tst r3).calm.bnd fun b r2 => (match isTrueV r2 b with
          | some true => (evE G C xe r2).calm.bnd fun v r3 => match v.take r3 with
            | some (x, r4) => if acc.length < LIM then loopC own t (fun r => evT G C tst r) (fun r => evE G C xe r) (ds.drop (i + 1)) (acc ++ [x]) r4 else .bad
            | none => .bad
          | some false => loopC own t (fun r => evT G C tst r) (fun r => evE G C xe r) (ds.drop (i + 1)) acc r2
          | none => .bad).bnd fun xs r2 => .ok (.own (.lst xs)) (restF r1 r2 own)) := by
        cases hh : (evT G C tst r3).calm with
        | ok b r4 => rw [hh] at g2; exact g2
        | exc c fs r4 => rw [hh] at g2; exact g2
        | bad => rw [hh] at g2; exact g2
      refine ⟨r3, F2, fp2, R3, (GdG.bndC (b1 := ⟨r3, fp2, F2, H3⟩) g3 e3).mono fun bv H4 ⟨vb, r4, F4, fp4, f4, A4, g4⟩ => ?_⟩
      obtain ⟨hL4, nD4, fD4⟩ := A4.e1.out hL3 nD3 fD3
      have s4 : Same F1 F4 := s2.trans A4.e1.sF
      split at g4
      · rename_i hb
        refine ⟨true, isTrueV_bl A4.R A4.p hb, ?_⟩
        refine iteT ?_
        have g5 : GdG (zx X cls exc) σ (PVl (zx X cls exc) σ) ⟨r, fp, F, H⟩ W Q ((evE G C xe r4).calm.bnd fun v r3 => (match v.take r3 with
            | some (x, r4) => if acc.length < LIM then loopC own t (fun r => evT G C tst r) (fun r => evE G C xe r) (ds.drop (i + 1)) (acc ++ [x]) r4 else .bad
            | none => .bad).bnd fun xs r2 => .ok (.own (.lst xs)) (restF r1 r2 own)) := by
          cases hh : (evE G C xe r4).calm with
          | ok b r5 => rw [hh] at g4; exact g4
          | exc c fs r5 => rw [hh] at g4; exact g4
          | bad => rw [hh] at g4; exact g4
        refine ⟨r4, F4, fp4, A4.R, (GdG.bndC (b1 := ⟨r4, fp4, F4, H4⟩) g5 A4.e).mono fun yv H5 ⟨vy, r5, F5, fp5, f5, A5, g6⟩ => ?_⟩
        obtain ⟨hL5, nD5, fD5⟩ := A5.e1.out hL4 nD4 fD4
        have nf5 : D ∉ f5 := fun z => by
          rcases A5.f1 D z with z | z
          · have z' : H4 D = none := z
            rw [hL4] at z'; cases z'
          · exact nD4 z
        split at g6
        · rename_i xd r6 ht6
          obtain ⟨F6, R6, hr6, gw, hl6⟩ := Vl.take_ok A5.R A5.p ht6
          have e6 := gw.ext (fun a ha => (A5.f A4.e a ha).symm) A5.e
          have fD6 : F6 D = none := by
            cases q : F6 D with
            | none => rfl
            | some u =>
              rcases gw.new D u q fD5 with z | z
              · exact (nD5 z.1).elim
              · exact (nf5 z).elim
          have nD6 : ¬ OwnS r6 fp5 D := fun z => nD5 (gw.shr D z)
          split at g6
          · rename_i hlen
            have hlen2 : ys.length < sizeLine := by rw [← hr.length, ← lim_line]; exact hlen
            refine ⟨ys, hL5, hlen2, again (R6.other nD6 fD6) w3 (s4.trans (A5.e1.sF.trans gw.sF)) upd_same ((hr.mono (A4.e1.sF.trans (A5.e1.sF.trans gw.sF))).append (.one hr6)) ?_ fD6 nD6 (Ext.other (b := ⟨r, fp, F, H⟩) e6 hbD) g6⟩
            rw [List.length_append, List.length_singleton]
            omega
          · exact g6.elim
        · exact g6.elim
      · rename_i hb
        refine ⟨false, isTrueV_bl A4.R A4.p hb, ?_⟩
        refine iteF ?_
        exact again A4.R w3 s4 hL4 (hr.mono A4.e1.sF) hz fD4 nD4 A4.e g4
      · exact g4.elim
  · have hi' : i = ds.length := by omega
    refine .inl ⟨j2 hi', ?_⟩
    rw [hi', List.drop_length] at g2
    unfold loopC at g2
    have g3 : GdG (zx X cls exc) σ (PVl (zx X cls exc) σ) ⟨r, fp, F, H⟩ W Q (.ok (.own (.lst acc)) (restF r1 r2 own)) := g2
    have nRest : ∀ a, OwnS (restF r1 r2 own) fp2 a → OwnS (wipeF r2 own) fp2 a := fun a z => own_rest hq z
    refine g3 (.ref D) [D] F2 H2 fp2 ⟨e2.sF, e2.new, e2.keep, fun a z => e2.shr a (nRest a z)⟩ (A1.R.rest s2 hq R2) ⟨D, rfl, ⟨rfl, ys, hL, hz, hr⟩, fun a ha => ?_⟩ fun a ha => ?_
    · rw [List.mem_singleton.mp ha]
      exact ⟨fD2, fun z => nD2 (nRest D z)⟩
    · rw [List.mem_singleton.mp ha]
      exact hbD
variable {scope : Scope} {ownN : List (Str × Nat)}
/-- [e for t in it if c] -/
theorem pe_lcV (hc : X.calm = true) (hN : X.N.Nodup) (hi : PI X tg iter (tIt X cls exc W G C pr it)) (ok : BlkOk X.N X.env.scope scope ownN) (ho : ∀ j ∈ tgS t, j ∈ ownN.map (·.2)) (hpr : pr = true → ∃ ts, t = .tp ts)
    (hg : ∀ (s : Shared) (H : Hp) (C : Addr) (cl : List (Str × Addr)) (fp : List Addr), TgOk (X.blk s H scope (compEnvC scope cl C X.env) fp) cls tg t)
    (ht : ∀ (s : Shared) (H : Hp) (C' : Addr) (cl : List (Str × Addr)) (fp : List Addr), PTs (X.blk s H scope (compEnvC scope cl C' X.env) fp) ifs (tTs (X.blk s H scope (compEnvC scope cl C' X.env) fp) cls exc G C tst))
    (he : ∀ (s : Shared) (H : Hp) (C' : Addr) (cl : List (Str × Addr)) (fp : List Addr), PE (X.blk s H scope (compEnvC scope cl C' X.env) fp) elt (tE (X.blk s H scope (compEnvC scope cl C' X.env) fp) cls exc W0 G C xe)) (hs : ∀ x, foldedSetIterable iter X.env x = pure x := by intro _; rfl) (hnp : ((ownN.map (·.2)).all fun i => cls.pins.all fun ip => ip.1 != i) = true := by rfl) :
    PE X (.ListComp elt [⟨tg, iter, ifs, 0⟩] scope pos) (tE X cls exc W G C (.cmpr (ownN.map (·.2)) it t tst xe)) :=
  (pe_lc hc hN hi ok (fun s H C' cl fp => pg_Y (cls := cls) (exc := exc) (hg s H C' cl fp) hpr) ht he hs).cons fun σ H Q h => conv_lc (fun i h => List.all_eq_true.mp hnp i h) ho σ H Q h
theorem ps_lcV {i : Nat} {y : Str} {py spos : Pos} (hc : X.calm = true) (hN : X.N.Nodup) (hy : X.N[i]? = some y) (hyl : X.env.scope.names.lookup y = some .local)
    (hsw : swapsWith (.ListComp elt [⟨tg, iter, ifs, 0⟩] scope pos) (some (.Name y py)) spos.line X.env = pure true)
    (hi : PI X tg iter (tIt X cls exc W G C pr it)) (ok : BlkOk X.N X.env.scope scope ownN) (ho : ∀ j ∈ tgS t, j ∈ ownN.map (·.2)) (hpr : pr = true → ∃ ts, t = .tp ts)
    (hg : ∀ (s : Shared) (H : Hp) (C : Addr) (cl : List (Str × Addr)) (fp : List Addr), TgOk (X.blk s H scope (compEnvC scope cl C X.env) fp) cls tg t)
    (ht : ∀ (s : Shared) (H : Hp) (C' : Addr) (cl : List (Str × Addr)) (fp : List Addr), PTs (X.blk s H scope (compEnvC scope cl C' X.env) fp) ifs (tTs (X.blk s H scope (compEnvC scope cl C' X.env) fp) cls exc G C tst))
    (he : ∀ (s : Shared) (H : Hp) (C' : Addr) (cl : List (Str × Addr)) (fp : List Addr), PE (X.blk s H scope (compEnvC scope cl C' X.env) fp) elt (tE (X.blk s H scope (compEnvC scope cl C' X.env) fp) cls exc W0 G C xe)) (hs : ∀ x, foldedSetIterable iter X.env x = pure x := by intro _; rfl) (hnp : ((ownN.map (·.2)).all fun i => cls.pins.all fun ip => ip.1 != i) = true := by rfl) (np : NoPin cls i := by rfl) :
    PS X (.Assign [.Name y py] (.ListComp elt [⟨tg, iter, ifs, 0⟩] scope pos) spos) (tSt X cls exc W G C (.asg (.nm i) (.cmpr (ownN.map (·.2)) it t tst xe))) := by
  refine (ps_setLc (te := tE X cls exc W0 G C xe) (tt := tTs X cls exc G C tst) (g := gY (zx X cls exc) t pr) (wi := tIt X cls exc W G C pr it) hc hN hy hyl hsw hi ok (fun s H C' cl fp => pg_Y (cls := cls) (exc := exc) (hg s H C' cl fp) hpr) ht he hs).cons fun D σ H ⟨r, F, fp, R, g⟩ => ?_
  rw [evS] at g
  obtain ⟨r0, F0, fp0, R0, g0⟩ := stepS R (.refl ..) g
  exact conv_lc (fun i h => List.all_eq_true.mp hnp i h) ho σ H _ ⟨r0, F0, fp0, R0, g0.mono fun y H1 ⟨va, r1, F1, fp1, f1, A1, g1⟩ => put_end np A1 (.refl ..) g1⟩
end
end VL
end
section
/-! V22: calls; a def's promise. -/
namespace VL
open PySem PySem.Spec PyProof.Rows L2
section
variable {X : Cx} {cls : Clz} {exc : List (Addr × List Str)} {W W' : WX} {G : List Fd} {C : List D} {e a b c : Expr} {es : List Expr} {xa xb xc x : Ex} {xs : Ar} {pos p : Pos} {f : Str}
variable {Z : Zx} {r r' r2 : Fr} {σ σ' : L2.St} {F F' F2 H H' H2 : Hp} {fp fp' fp2 : Nat → List Addr} {s : Shared} {pins : List (Addr × Obj)}
/-- the lent ones behind a call -/
def exitF : List Bool → List D → Fr
  | [], _ => []
  | true :: ms, d :: os => some (true, d) :: exitF ms os
  | true :: ms, [] => none :: exitF ms []
  | false :: ms, os => none :: exitF ms os
def GdC (Z : Zx) (b : Bs) (σ : L2.St) (ms : List Bool) (Q : VK) (E : XK) : CRes → Prop
  | .ret o d outs => ∀ v fr F' H' fp', Ext b.r b.fp b.F b.H (exitF ms outs) fp' F' H' → Same F' H' → (∀ i d, (exitF ms outs)[i]? = some (some (true, d)) → ∃ p, σ[i]? = some (some (.ref p)) ∧ OwnAt Z F' H' p d (fp' i) ∧ (∀ a ∈ fp' i, F' a = none) ∧ ∀ j e, (exitF ms outs)[j]? = some (some (true, e)) → j ≠ i → ∀ a ∈ fp' i, a ∉ fp' j) →
      RtV Z F' H' v fr o d → (∀ a ∈ fr, (b.H a = none ∨ OwnS b.r b.fp a) ∧ ¬ OwnS (exitF ms outs) fp' a) → Q v H'
  | .exc c fs outs => ∀ cls d F' H' fp', Ext b.r b.fp b.F b.H (exitF ms outs) fp' F' H' → Same F' H' → (∀ i d, (exitF ms outs)[i]? = some (some (true, d)) → ∃ p, σ[i]? = some (some (.ref p)) ∧ OwnAt Z F' H' p d (fp' i) ∧ (∀ a ∈ fp' i, F' a = none) ∧ ∀ j e, (exitF ms outs)[j]? = some (some (true, e)) → j ≠ i → ∀ a ∈ fp' i, a ∉ fp' j) →
      ExR Z c fs cls d F' H' → E cls d H'
  | .bad => False
/-- what a def promises -/
def spV (Z : Zx) (fd : Fd) : Sp := fun vs H Q E => vs.length = fd.np ∧ ∃ ds F fp, ds.length = fd.np ∧ Rel Z (entryF fd.lent ds) (vs.map some) F H fp ∧ GdC Z ⟨entryF fd.lent ds, fp, F, H⟩ (vs.map some) fd.lent Q E (fd.sem ds)

/-! ### around a call -/
/-- what the callee had not stays -/
theorem Rel.around {re re' : Fr} {fpe fpe' : Nat → List Addr} (R : Rel Z r σ F H fp) (x : Ext re fpe F H re' fpe' F' H') (s : Same F' H') (hd : ∀ a, OwnS re fpe a → ¬ OwnS r fp a) : Rel Z r σ F' H' fp := by
  refine ⟨R.pin, s, R.len, fun i d h => ?_, fun i d h => ?_, R.dis⟩
  · obtain ⟨v, h1, h2⟩ := R.fro i d h
    exact ⟨v, h1, h2.mono x.sF⟩
  · obtain ⟨p, h1, h2, h3⟩ := R.own i d h
    have no : ∀ a ∈ fp i, ¬ OwnS re fpe a := fun a ha z => hd a z ⟨i, d, h, ha⟩
    refine ⟨p, h1, h2.mono x.sF fun a ha => ?_, fun a ha => ?_⟩
    · obtain ⟨o, ho⟩ := h2.some.2 a ha
      rw [ho]
      exact x.keep a o ho (no a ha)
    · cases q : F' a with
      | none => rfl
      | some o =>
        obtain ⟨u, hu⟩ := h2.some.2 a ha
        rcases x.new a o q (h3 a ha) with z | z
        · rw [hu] at z; cases z
        · exact (no a ha z).elim
theorem entry_nil : ∀ (ds : List D) (i : Nat) (d : D), (entryF [] ds)[i]? ≠ some (some (true, d))
  | [], i, d, h => by simp [entryF] at h
  | e :: ds, 0, d, h => by simp [entryF] at h
  | e :: ds, i + 1, d, h => entry_nil ds i d (by simpa [entryF] using h)
theorem back_nil : ∀ {vs : List Vl} {os : List D} {r r' : Fr}, backL [] vs os r = some r' → os = [] ∧ r' = r
  | [], [], r, r', h => by
    unfold backL at h
    cases h
    exact ⟨rfl, rfl⟩
  | [], o :: os, r, r', h => by unfold backL at h; cases h
  | v :: vs, os, r, r', h => back_nil (vs := vs) (os := os) (r := r) (r' := r') (by cases os <;> (rw [backL] at h; exact h))
structure CallOk (Z : Zx) (b : Bs) (σ : L2.St) (r' : Fr) (F' H' : Hp) (fp' : Nat → List Addr) : Prop where
  rel : Rel Z r' σ F' H' fp'
  ext : Ext b.r b.fp b.F b.H r' fp' F' H'
/-- nothing lent -/
theorem call_none {b b1 : Bs} {ys : List V} {vs : List Vl} {r1 : Fr} {fr : List Addr} {fd : Fd} {Q : VK} (hl : fd.lent = []) (A1 : Aft (Z := Z) (σ := σ) (PVls Z σ) b b1 ys H vs r1 F fp fr) (e : Ext b.r b.fp b.F b.H b1.r b1.fp b1.F b1.H)
    (g : GdG Z σ (PVl Z σ) b W Q (callF fd vs r1)) : spV Z.un fd ys H Q fun cls d H' => W cls d σ H' := by
  unfold callF at g
  rw [hl] at g
  split at g
  · exact g.elim
  · rename_i ds r2 hlend
    split at g
    · rename_i hnp
      obtain ⟨F2, fpc, L⟩ := lendL_ok [] A1.R A1.p hlend
      have e2 := L.grw.ext (fun a ha => (A1.f e a ha).symm) A1.e
      have nown : ∀ a, ¬ OwnS (entryF [] ds) fpc a := fun a ⟨i, d, h1, _⟩ => entry_nil ds i d h1
      refine ⟨by rw [← hnp]; exact L.dln.symm, ds, F2, fpc, hnp, by rw [hl]; exact L.arg, ?_⟩
      rw [hl]
      have fin : ∀ {re' : Fr} {F' H' : Hp} {fpe' : Nat → List Addr}, Ext (entryF [] ds) fpc F2 H re' fpe' F' H' → Same F' H' → Rel Z r2 σ F' H' fp ∧ Ext b.r b.fp b.F b.H r2 fp F' H' := fun {re' F' H' fpe'} x s => by
        refine ⟨L.rel.around x s fun a z => (nown a z).elim, e2.sF.trans x.sF, fun a o h1 h2 => ?_, fun a o h1 h2 => ?_, e2.shr⟩
        · cases q : F2 a with
          | some u => exact e2.new a u q h2
          | none =>
            rcases x.new a o h1 q with z | z
            · exact e2.back (.inl z)
            · exact (nown a z).elim
        · exact x.keep a o (e2.keep a o h1 h2) (nown a)
      cases hs : fd.sem ds with
      | bad => rw [hs] at g; exact g.elim
      | ret o d outs =>
        rw [hs] at g
        dsimp only at g
        split at g
        · rename_i r3 hb
          obtain ⟨rfl, rfl⟩ := back_nil hb
          intro v fr' F' H' fpe' x s _ rv hf
          obtain ⟨R3, e3⟩ := fin x s
          unfold RtV at rv
          have hfr : ∀ a ∈ fr', H a = none := fun a ha => by
            rcases (hf a ha).1 with z | z
            · exact z
            · exact (nown a z).elim
          cases o with
          | true =>
            rw [if_pos rfl] at rv g
            obtain ⟨p, rfl, ho, hn⟩ := rv
            refine g _ fr' F' H' fp e3 R3 ⟨p, rfl, OwnAt.re (Z := Z.un) (ps := Z.cls.pins) ho, fun a ha => ⟨hn a ha, fun z => ?_⟩⟩ fun a ha => e2.back (.inl (hfr a ha))
            obtain ⟨o, ho⟩ := OwnS.some L.rel z
            rw [hfr a ha] at ho; cases ho
          | false =>
            rw [if_neg (by decide)] at rv g
            obtain ⟨rfl, hr⟩ := rv
            exact g _ [] F' H' fp e3 R3 ⟨rfl, Rep.re (Z := Z.un) (ps := Z.cls.pins) hr⟩ fun a z => nomatch z
        · exact g.elim
      | exc c fs outs =>
        rw [hs] at g
        dsimp only at g
        split at g
        · rename_i r3 hb
          obtain ⟨rfl, rfl⟩ := back_nil hb
          intro cl d F' H' fpe' x s _ ex
          obtain ⟨R3, e3⟩ := fin x s
          exact g cl d F' H' fp e3 R3 (ExR.re (Z := Z.un) (ps := Z.cls.pins) ex)
        · exact g.elim
    · exact g.elim
def putB (v : Vl) (r : Fr) (d : D) : Fr := match v with
  | .var i => r.set i (some (true, d))
  | _ => r
theorem back_one {v : Vl} {vs : List Vl} {os : List D} {r r' : Fr} (h : backL [true] (v :: vs) os r = some r') : ∃ d, os = [d] ∧ r' = putB v r d := by
  cases os with
  | nil => cases v <;> (rw [backL] at h <;> first | cases h | skip) <;> (intros; simp_all)
  | cons d os =>
    cases v with
    | var i =>
      rw [backL] at h
      obtain ⟨rfl, rfl⟩ := back_nil h
      exact ⟨d, rfl, rfl⟩
    | fro d' =>
      rw [backL] at h
      · obtain ⟨rfl, rfl⟩ := back_nil h
        exact ⟨d, rfl, rfl⟩
      · intro i z; cases z
    | own d' =>
      rw [backL] at h
      · obtain ⟨rfl, rfl⟩ := back_nil h
        exact ⟨d, rfl, rfl⟩
      · intro i z; cases z
theorem set_same {i : Nat} {v : V} (h : σ[i]? = some (some v)) : σ.set i (some v) = σ := by
  apply List.ext_getElem?
  intro j
  by_cases hj : i = j
  · subst hj
    rw [List.getElem?_set_self (List.getElem?_eq_some_iff.mp h).1, h]
  · rw [List.getElem?_set_ne hj]
/-- the first one lent -/
theorem call_one {b b1 : Bs} {ys : List V} {vs : List Vl} {r1 : Fr} {fr : List Addr} {fd : Fd} {Q : VK} (hl : fd.lent = [true]) (h0 : 0 < fd.np) (A1 : Aft (Z := Z) (σ := σ) (PVls Z σ) b b1 ys H vs r1 F fp fr) (e : Ext b.r b.fp b.F b.H b1.r b1.fp b1.F b1.H)
    (g : GdG Z σ (PVl Z σ) b W Q (callF fd vs r1)) : spV Z.un fd ys H Q fun cls d H' => W cls d σ H' := by
  unfold callF at g
  rw [hl] at g
  split at g
  · exact g.elim
  · rename_i ds r2 hlend
    split at g
    · rename_i hnp
      obtain ⟨F2, fpc, L⟩ := lendL_ok [true] A1.R A1.p hlend
      have e2 := L.grw.ext (fun a ha => (A1.f e a ha).symm) A1.e
      refine ⟨by rw [← hnp]; exact L.dln.symm, ds, F2, fpc, hnp, by rw [hl]; exact L.arg, ?_⟩
      rw [hl]
      have ob : ∀ a, OwnS (entryF [true] ds) fpc a → b.H a = none ∨ OwnS b.r b.fp a := fun a z => by
        rcases (L.own a z).1 with z | z
        · exact A1.e.shr a z
        · exact A1.f e a z
      have fin : ∀ {re' : Fr} {F' H' : Hp} {fpe' : Nat → List Addr}, Ext (entryF [true] ds) fpc F2 H re' fpe' F' H' → Same F' H' → Rel Z r2 σ F' H' fp ∧ Ext b.r b.fp b.F b.H r2 fp F' H' := fun {re' F' H' fpe'} x s => by
        refine ⟨L.rel.around x s fun a z => (L.own a z).2, e2.sF.trans x.sF, fun a o h1 h2 => ?_, fun a o h1 h2 => ?_, e2.shr⟩
        · cases q : F2 a with
          | some u => exact e2.new a u q h2
          | none =>
            rcases x.new a o h1 q with z | z
            · exact e2.back (.inl z)
            · exact ob a z
        · refine x.keep a o (e2.keep a o h1 h2) fun z => ?_
          rcases ob a z with z | z
          · rw [h1] at z; cases z
          · exact h2 z
      have both : ∀ {v0 : Vl} {d' : D} {r3 : Fr} {F' H' : Hp} {fpe' : Nat → List Addr}, vs.head? = some v0 → r3 = putB v0 r2 d' → Ext (entryF [true] ds) fpc F2 H [some (true, d')] fpe' F' H' → Same F' H' →
          (∀ i d, ([some (true, d')] : Fr)[i]? = some (some (true, d)) → ∃ p, (ys.map some)[i]? = some (some (.ref p)) ∧ OwnAt Z.un F' H' p d (fpe' i) ∧ ∀ a ∈ fpe' i, F' a = none) →
          ∃ fp3, Rel Z r3 σ F' H' fp3 ∧ Ext b.r b.fp b.F b.H r3 fp3 F' H' ∧ ∀ a, OwnS r3 fp3 a → OwnS r2 fp a ∨ OwnS [some (true, d')] fpe' a := fun {v0 d' r3 F' H' fpe'} hv hr x s hx => by
        obtain ⟨R3, e3⟩ := fin x s
        cases v0 with
        | fro d0 => subst hr; exact ⟨fp, R3, e3, fun a z => .inl z⟩
        | own d0 => subst hr; exact ⟨fp, R3, e3, fun a z => .inl z⟩
        | var i =>
          subst hr
          cases vs with
          | nil => cases hv
          | cons v1 vs =>
            cases hv
            obtain ⟨p, h1, ho, hn⟩ := hx 0 d' rfl
            cases ys with
            | nil => exact A1.p.elim
            | cons y0 ys =>
              obtain ⟨g1, g2, _, hv0, _, _⟩ := A1.p
              have : y0 = .ref p := by simpa using h1
              subst this
              have hσ : σ[i]? = some (some (.ref p)) := hv0.2
              have ex0 : ∀ a ∈ fpe' 0, OwnS [some (true, d')] fpe' a := fun a ha => ⟨0, d', rfl, ha⟩
              have R4 := R3.setOwnP i (by rw [set_same hσ]; exact R3.pin) (OwnAt.re (Z := Z.un) (ps := Z.cls.pins) ho) fun a ha => ⟨hn a ha, fun z => by
                rcases x.shr a (ex0 a ha) with q | q
                · obtain ⟨o, ho⟩ := OwnS.some L.rel z
                  rw [q] at ho; cases ho
                · exact (L.own a q).2 z⟩
              rw [set_same hσ] at R4
              refine ⟨setFp fp i (fpe' 0), R4, ⟨e3.sF, e3.new, e3.keep, fun a z => ?_⟩, fun a z => ?_⟩
              · rcases own_ofSet z with z | z
                · exact e3.shr a z
                · rcases x.shr a (ex0 a z) with q | q
                  · exact e2.back (.inl q)
                  · exact ob a q
              · rcases own_ofSet z with z | z
                · exact .inl z
                · exact .inr (ex0 a z)
      cases hs : fd.sem ds with
      | bad => rw [hs] at g; exact g.elim
      | ret o d outs =>
        rw [hs] at g
        dsimp only at g
        split at g
        · rename_i r3 hb
          cases vs with
          | nil =>
            have h1 := L.dln
            have h2 : ys.length = 0 := VRL.length A1.p
            omega
          | cons v0 vs =>
            obtain ⟨d', rfl, hr3⟩ := back_one hb
            intro v fr' F' H' fpe' x s hx rv hf
            obtain ⟨fp3, R3, e3, o3⟩ := both (v0 := v0) rfl hr3 x s fun i d h => (hx i d h).imp fun p q => ⟨q.1, q.2.1, q.2.2.1⟩
            unfold RtV at rv
            cases o with
            | true =>
              rw [if_pos rfl] at rv g
              obtain ⟨p, rfl, ho, hn⟩ := rv
              refine g _ fr' F' H' fp3 e3 R3 ⟨p, rfl, OwnAt.re (Z := Z.un) (ps := Z.cls.pins) ho, fun a ha => ⟨hn a ha, fun z => ?_⟩⟩ fun a ha => ?_
              · rcases o3 a z with z | z
                · rcases (hf a ha).1 with q | q
                  · obtain ⟨o, ho⟩ := OwnS.some L.rel z
                    rw [show H a = none from q] at ho; cases ho
                  · exact (L.own a q).2 z
                · exact (hf a ha).2 z
              · rcases (hf a ha).1 with q | q
                · exact e2.back (.inl q)
                · exact ob a q
            | false =>
              rw [if_neg (by decide)] at rv g
              obtain ⟨rfl, hr⟩ := rv
              exact g _ [] F' H' fp3 e3 R3 ⟨rfl, Rep.re (Z := Z.un) (ps := Z.cls.pins) hr⟩ fun a z => nomatch z
        · exact g.elim
      | exc c fs outs =>
        rw [hs] at g
        dsimp only at g
        split at g
        · rename_i r3 hb
          cases vs with
          | nil =>
            have h1 := L.dln
            have h2 : ys.length = 0 := VRL.length A1.p
            omega
          | cons v0 vs =>
            obtain ⟨d', rfl, hr3⟩ := back_one hb
            intro cl d F' H' fpe' x s hx ex
            obtain ⟨fp3, R3, e3, o3⟩ := both (v0 := v0) rfl hr3 x s fun i d h => (hx i d h).imp fun p q => ⟨q.1, q.2.1, q.2.2.1⟩
            exact g cl d F' H' fp3 e3 R3 (ExR.re (Z := Z.un) (ps := Z.cls.pins) ex)
        · exact g.elim
    · exact g.elim
end
end VL
end
section
/-! V23: calls as expressions; a def keeps its promise. -/
namespace VL
open PySem PySem.Spec PyProof.Rows L2
section
variable {X : Cx} {cls : Clz} {exc : List (Addr × List Str)} {W W' : WX} {G : List Fd} {C : List D} {e a b c : Expr} {es : List Expr} {xa xb xc x : Ex} {xs : Ar} {pos p : Pos}
variable {Z : Zx} {r r' r2 : Fr} {σ σ' : L2.St} {F F' F2 H H' H2 : Hp} {fp fp' fp2 : Nat → List Addr} {s : Shared} {pins : List (Addr × Obj)}
theorem pe_callV {k j : Nat} {f : Addr} {fd : FuncData} {ps : List Str} {fn : Fd} {x : Str} {p pos : Pos} (F : FnOk X.prog X.w X.K X.mg X.base (L2N.CX X.prog X.w) k f fd ps (spV (zx X cls exc).un fn)) (hr : Room k X.A) (hg : Gl X x) (hm : X.mg x = some (.ref f)) (hk : PySem.W.keepIn X.K (.ref f) = true) (hb : Binds X.K fd ps []) (tk : L2N.Takes X W)
    (hG : G[j]? = some fn) (hl : fn.lent = [] ∨ (fn.lent = [true] ∧ 0 < fn.np)) (ha : PA X (e :: es) (tA X cls exc W G C xs)) (hdb : (x == ("__debug__" : Str)) = false := by decide) (he : starEach (e :: es) X.env = (false, eval e X.env) :: starEach es X.env := by rfl) (hpl : (backTo pos (starEach es X.env)).any (·.1) = false := by rfl) :
    PE X (.Call (.Name x p) (e :: es) [] pos) (tE X cls exc W G C (.call j xs)) := by
  refine (pe_callS (E := WE W) F hr hg hm hk hb (fun σ => L2N.passAt tk σ) ha hdb he hpl).cons fun σ H Q ⟨r, F, fp, R, g⟩ => ?_
  rw [evE] at g
  obtain ⟨r0, F0, fp0, R0, g0⟩ := stepA R (.refl ..) g
  refine ⟨r0, F0, fp0, R0, g0.mono fun ys H1 ⟨vs, r1, F1, fp1, f1, A1, g1⟩ => ?_⟩
  obtain ⟨fd', hfd, g2⟩ := g1.orBad
  rw [hG] at hfd
  cases hfd
  rcases hl with hl | ⟨hl, h0⟩
  · exact call_none hl A1 (.refl ..) g2
  · exact call_one hl h0 A1 (.refl ..) g2
/-! ### a def's end -/
theorem pad_own {k : Nat} {a : Addr} : OwnS (r ++ List.replicate k none) fp a ↔ OwnS r fp a := by
  constructor
  · rintro ⟨i, d, h1, h2⟩
    refine ⟨i, d, ?_, h2⟩
    by_cases hi : i < r.length
    · rwa [List.getElem?_append_left hi] at h1
    · rw [List.getElem?_append_right (by omega), List.getElem?_replicate] at h1
      split at h1 <;> cases h1
  · rintro ⟨i, d, h1, h2⟩
    exact ⟨i, d, by rw [List.getElem?_append_left (slot_len h1)]; exact h1, h2⟩
theorem Rel.pad (R : Rel Z r σ F H fp) (k : Nat) : Rel Z (r ++ List.replicate k none) (σ ++ List.replicate k none) F H fp := by
  have sub : ∀ {i : Nat} {o : Bool} {d : D}, (r ++ List.replicate k none)[i]? = some (some (o, d)) → i < r.length ∧ r[i]? = some (some (o, d)) := fun {i o d} h => by
    by_cases hi : i < r.length
    · rw [List.getElem?_append_left hi] at h
      exact ⟨hi, h⟩
    · rw [List.getElem?_append_right (by omega), List.getElem?_replicate] at h
      split at h <;> cases h
  refine ⟨fun ip hm => by
    have := R.pin ip hm
    rw [List.getElem?_append_left (List.getElem?_eq_some_iff.mp this).1]
    exact this, R.same, by rw [List.length_append, List.length_append, R.len, List.length_replicate, List.length_replicate], fun i d h => ?_, fun i d h => ?_, fun i j d e hij h1 h2 => R.dis i j d e hij (sub h1).2 (sub h2).2⟩
  · obtain ⟨v, h1, h2⟩ := R.fro i d (sub h).2
    exact ⟨v, by rw [List.getElem?_append_left (by rw [← R.len]; exact (sub h).1)]; exact h1, h2⟩
  · obtain ⟨v, h1, h2⟩ := R.own i d (sub h).2
    exact ⟨v, by rw [List.getElem?_append_left (by rw [← R.len]; exact (sub h).1)]; exact h1, h2⟩
theorem RtV.re {ps : List (Nat × Addr)} {v : V} {fr : List Addr} {o : Bool} {d : D} (h : RtV Z F H v fr o d) : RtV (Z.re ps) F H v fr o d := by
  unfold RtV at h ⊢
  cases o with
  | true =>
    rw [if_pos rfl] at h ⊢
    obtain ⟨p, h1, h2, h3⟩ := h
    exact ⟨p, h1, h2.re, h3⟩
  | false =>
    rw [if_neg (by decide)] at h ⊢
    exact ⟨h.1, h.2.re⟩
/-- the pins of a def's parameters -/
def pinsL : List Bool → Addr → List (Nat × Addr)
  | [], _ => []
  | _ :: _, p => [(0, p)]
/-- the lent ones at the end -/
theorem end_slots {lent : List Bool} {ds outs : List D} {vs : List V} {fp : Nat → List Addr} {p0 : Addr} (hl : lent = [] ∨ lent = [true]) (hp0 : lent = [true] → (vs.map some)[0]? = some (some (.ref p0))) (ho : outsF lent r' = some outs) (R : Rel (Z.re (pinsL lent p0)) r' σ' F' H' fp') (x : Ext (entryF lent ds) fp F H r' fp' F' H') :
    Ext (entryF lent ds) fp F H (exitF lent outs) fp' F' H' ∧ (∀ i d, (exitF lent outs)[i]? = some (some (true, d)) → ∃ p, (vs.map some)[i]? = some (some (.ref p)) ∧ OwnAt Z F' H' p d (fp' i) ∧ (∀ a ∈ fp' i, F' a = none) ∧ ∀ j e, (exitF lent outs)[j]? = some (some (true, e)) → j ≠ i → ∀ a ∈ fp' i, a ∉ fp' j) ∧ ∀ a, OwnS (exitF lent outs) fp' a → OwnS r' fp' a := by
  rcases hl with rfl | rfl
  · cases ho
    have no : ∀ a, ¬ OwnS (exitF [] []) fp' a := fun a ⟨i, d, h, _⟩ => by simp [exitF] at h
    exact ⟨⟨x.sF, x.new, x.keep, fun a z => (no a z).elim⟩, fun i d h => by simp [exitF] at h, fun a z => (no a z).elim⟩
  · cases r' with
    | nil => cases ho
    | cons y r' =>
      cases y with
      | none => cases ho
      | some y =>
        obtain ⟨b, d⟩ := y
        cases b with
        | false => cases ho
        | true =>
          have ho' : (outsF [] r').map (d :: ·) = some outs := ho
          have : outs = [d] := by
            have h2 : outsF [] r' = some [] := rfl
            rw [h2] at ho'
            exact (Option.some.inj ho').symm
          subst this
          have sub : ∀ a, OwnS (exitF [true] [d]) fp' a → OwnS (some (true, d) :: r') fp' a := fun a ⟨i, e, h, ha⟩ => by
            cases i with
            | zero => exact ⟨0, d, rfl, ha⟩
            | succ i => simp [exitF] at h
          refine ⟨⟨x.sF, x.new, x.keep, fun a z => x.shr a (sub a z)⟩, fun i e h => ?_, sub⟩
          cases i with
          | succ i => simp [exitF] at h
          | zero =>
            have he : d = e := by simpa [exitF] using h
            subst he
            obtain ⟨p', hp', ho2, hn2⟩ := R.own 0 d rfl
            have hq := R.pin (0, p0) List.mem_cons_self
            have hq' : σ'[0]? = some (some (.ref p0)) := hq
            rw [hp'] at hq'
            cases hq'
            refine ⟨_, hp0 rfl, OwnAt.re (Z := Z.re (pinsL [true] p0)) (ps := Z.cls.pins) ho2, hn2, fun j e hj hne => ?_⟩
            cases j with
            | zero => exact absurd rfl hne
            | succ j => simp [exitF] at hj
theorem end_ok {lent : List Bool} {ds : List D} {vs : List V} {k : Nat} {Q : VK} {E : XK} {o : Out} {p0 : Addr} (hl : lent = [] ∨ lent = [true]) (hp0 : lent = [true] → (vs.map some)[0]? = some (some (.ref p0))) (g : GdC Z ⟨entryF lent ds, fp, F, H⟩ (vs.map some) lent Q E (endC lent o)) :
    GdS (Z.re (pinsL lent p0)) ⟨entryF lent ds ++ List.replicate k none, fp, F, H⟩ (fun c d _ H' => E c d H') { nx := fun _ H' => Q .non H', rt := Q } o := by
  have cut : ∀ {r' : Fr} {F' H' : Hp} {fp' : Nat → List Addr}, Ext (entryF lent ds ++ List.replicate k none) fp F H r' fp' F' H' → Ext (entryF lent ds) fp F H r' fp' F' H' := fun {r' F' H' fp'} x =>
    ⟨x.sF, fun a o h1 h2 => (x.new a o h1 h2).imp id fun z => pad_own.mp z, fun a o h1 h2 => x.keep a o h1 fun z => h2 (pad_own.mp z), fun a z => (x.shr a z).imp id fun z => pad_own.mp z⟩
  cases o with
  | nx r' =>
    unfold endC at g
    dsimp only at g
    split at g
    · rename_i outs ho
      intro σ' F' H' fp' x R
      obtain ⟨x1, x2, x3⟩ := end_slots (Z := Z) hl hp0 ho R (cut x)
      exact g .non [] F' H' fp' x1 R.same x2 ⟨rfl, .non⟩ fun a z => nomatch z
    · exact g.elim
  | rt oo d r' =>
    unfold endC at g
    dsimp only at g
    split at g
    · rename_i outs ho
      intro v fr σ' F' H' fp' x R rv hf
      obtain ⟨x1, x2, x3⟩ := end_slots (Z := Z) hl hp0 ho R (cut x)
      exact g v fr F' H' fp' x1 R.same x2 (RtV.re (Z := Z.re (pinsL lent p0)) (ps := Z.cls.pins) rv) fun a ha => ⟨(hf a ha).1.imp id fun z => pad_own.mp z, fun z => (hf a ha).2 (x3 a z)⟩
    · exact g.elim
  | exc c fs r' =>
    unfold endC at g
    dsimp only at g
    split at g
    · rename_i outs ho
      intro cl d σ' F' H' fp' x R ex
      obtain ⟨x1, x2, x3⟩ := end_slots (Z := Z) hl hp0 ho R (cut x)
      exact g cl d F' H' fp' x1 R.same x2 (ExR.re (Z := Z.re (pinsL lent p0)) (ps := Z.cls.pins) ex)
    · exact g.elim
  | bad => exact g
end
section
variable {P : Program} {w : World} {K : PySem.W.Frag} {mg : Str → Option Value} {base : Heap} {cls : Clz} {exc : List (Addr × List Str)} {G : List Fd} {C : List D}
theorem takesV {N : List Str} {qual : Str} {scope : Scope} {f : Addr} {cd : Value} {A : Around} {outer : List Env} {s : Shared} {H : Hp} {E : XK} : L2N.Takes (cxOf (L2N.CX P w) P w K mg base N qual scope f cd A outer s H E) (fun c d _ H' => E c d H') := L2N.takes_of rfl rfl rfl rfl
theorem Rel.addPin {Z : Zx} {r : Fr} {σ : L2.St} {F H : Hp} {fp : Nat → List Addr} {ps : List (Nat × Addr)} (R : Rel Z r σ F H fp) (h : PinOk (Z.re ps) σ) : Rel (Z.re ps) r σ F H fp := by
  refine ⟨h, R.same, R.len, fun i d q => ?_, fun i d q => ?_, R.dis⟩
  · obtain ⟨v, h1, h2⟩ := R.fro i d q
    exact ⟨v, h1, h2.re⟩
  · obtain ⟨p, h1, h2, h3⟩ := R.own i d q
    exact ⟨p, h1, h2.re, h3⟩
theorem fnP {x qual : Str} {params : Arguments} {body : List Stmt} {scope : Scope} {f : Addr} {fd : FuncData} {N ps : List Str} {k : Nat} {fn : Fd} {b : Sts} {cls : List Zc} (F : FunD K x qual params body scope [] [] f fd) (S : FnScope N ps scope) (hnp : fn.np = ps.length) (hl : fn.lent = [] ∨ (fn.lent = [true] ∧ 0 < fn.np)) (hsem : fn.sem = runF G C fn.lent fn.np N.length b)
    (walk : ∀ (p0 : Addr) (cdv : Value) (A : Around) (outer : List Env) (s : Shared) (H : Hp) (E : XK), Room k (A.deeper (envOfC qual scope s.heap.objs.size f cdv)) → PSs (cxOf (L2N.CX P w) P w K mg base N qual scope f cdv A outer s H E) body (tSs (cxOf (L2N.CX P w) P w K mg base N qual scope f cdv A outer s H E) ⟨cls, pinsL fn.lent p0, []⟩ exc (fun c d _ H' => E c d H') G C b)) :
    FnOk P w K mg base (L2N.CX P w) (k + 1) f fd ps (spV ⟨P, w, K, ⟨cls, [], []⟩, exc⟩ fn) := by
  refine F.ok S (fun vs H Q E h => by rw [h.1, hnp]) fun cdv A outer s H vs Q E hr h => ?_
  obtain ⟨hv, ds, F0, fp, hd, R, g⟩ := h
  rw [hsem] at g
  unfold runF at g
  rw [if_pos hd] at g
  obtain ⟨p0, hp0⟩ : ∃ p0 : Addr, fn.lent = [true] → (vs.map some)[0]? = some (some (V.ref p0)) := by
    rcases hl with h | ⟨h, h0⟩
    · exact ⟨0, fun z => by rw [h] at z; cases z⟩
    · cases ds with
      | nil => rw [← hd] at h0; exact absurd h0 (by simp)
      | cons d ds =>
        rw [h] at R
        obtain ⟨p, h1, _⟩ := R.own 0 d rfl
        exact ⟨p, fun _ => h1⟩
  have hl' : fn.lent = [] ∨ fn.lent = [true] := hl.imp id fun h => h.1
  refine ⟨_, walk p0 cdv A outer s H E hr, ?_⟩
  refine ⟨entryF fn.lent ds ++ List.replicate (N.length - fn.np) none, F0, fp, ?_, end_ok (Z := ⟨P, w, K, ⟨cls, [], []⟩, exc⟩) hl' hp0 g⟩
  have pk : PinOk (Zx.re ⟨P, w, K, ⟨cls, [], []⟩, exc⟩ (pinsL fn.lent p0)) (vs.map some) := by
    rcases hl' with h | h
    · rw [h]; exact fun _ z => nomatch z
    · rw [h]
      intro ip hm
      have : ip = (0, p0) := by simpa [pinsL] using hm
      subst this
      exact hp0 h
  have := (R.addPin pk).pad (N.length - fn.np)
  rw [← hv] at this ⊢
  exact this
theorem fnV {x qual : Str} {params : Arguments} {body : List Stmt} {scope : Scope} {f : Addr} {fd : FuncData} {N ps : List Str} {k : Nat} {fn : Fd} {b : Sts} {cls : List Zc} (F : FunD K x qual params body scope [] [] f fd) (S : FnScope N ps scope) (hnp : fn.np = ps.length) (hl : fn.lent = []) (hsem : fn.sem = runF G C fn.lent fn.np N.length b)
    (walk : ∀ (cdv : Value) (A : Around) (outer : List Env) (s : Shared) (H : Hp) (E : XK), Room k (A.deeper (envOfC qual scope s.heap.objs.size f cdv)) → PSs (cxOf (L2N.CX P w) P w K mg base N qual scope f cdv A outer s H E) body (tSs (cxOf (L2N.CX P w) P w K mg base N qual scope f cdv A outer s H E) ⟨cls, [], []⟩ exc (fun c d _ H' => E c d H') G C b)) :
    FnOk P w K mg base (L2N.CX P w) (k + 1) f fd ps (spV ⟨P, w, K, ⟨cls, [], []⟩, exc⟩ fn) :=
  fnP F S hnp (.inl hl) hsem fun p0 => by rw [hl]; exact walk
theorem fnL {x qual : Str} {params : Arguments} {body : List Stmt} {scope : Scope} {f : Addr} {fd : FuncData} {N ps : List Str} {k : Nat} {fn : Fd} {b : Sts} {cls : List Zc} (F : FunD K x qual params body scope [] [] f fd) (S : FnScope N ps scope) (hnp : fn.np = ps.length) (hl : fn.lent = [true]) (h0 : 0 < fn.np) (hsem : fn.sem = runF G C fn.lent fn.np N.length b)
    (walk : ∀ (p0 : Addr) (cdv : Value) (A : Around) (outer : List Env) (s : Shared) (H : Hp) (E : XK), Room k (A.deeper (envOfC qual scope s.heap.objs.size f cdv)) → PSs (cxOf (L2N.CX P w) P w K mg base N qual scope f cdv A outer s H E) body (tSs (cxOf (L2N.CX P w) P w K mg base N qual scope f cdv A outer s H E) ⟨cls, [(0, p0)], []⟩ exc (fun c d _ H' => E c d H') G C b)) :
    FnOk P w K mg base (L2N.CX P w) (k + 1) f fd ps (spV ⟨P, w, K, ⟨cls, [], []⟩, exc⟩ fn) :=
  fnP F S hnp (.inr ⟨hl, h0⟩) hsem fun p0 => by rw [hl]; exact walk p0
end
end VL
end
section
/-! V24: stores into lists and dicts; dict displays. -/
namespace VL
open PySem PySem.Spec PyProof.Rows L2
section
variable {X : Cx} {cls : Clz} {exc : List (Addr × List Str)} {W W' : WX} {G : List Fd} {C : List D} {e a b c : Expr} {es : List Expr} {xa xb xc x xk xv : Ex} {xs : Ar} {pos p : Pos}
variable {Z : Zx} {r r' r2 : Fr} {σ σ' : L2.St} {F F' F2 H H' H2 : Hp} {fp fp' fp2 : Nat → List Addr} {s : Shared} {pins : List (Addr × Obj)}
theorem storeD_len {k : D} {n : NestedKey} {v : D} : ∀ kvs : List (D × D), (storeD k n v kvs).length ≤ kvs.length + 1
  | [] => Nat.le_refl _
  | (a, w) :: r => by
    unfold storeD
    split
    · simp
    · rw [List.length_cons, List.length_cons]
      have := storeD_len (k := k) (n := n) (v := v) r
      omega
theorem look_none {n : NestedKey} : ∀ {kvs : List (D × D)}, lookD n kvs = none → ∀ p ∈ kvs, keyOk p.1 ≠ some n
  | [], _, p, hp => nomatch hp
  | (a, w) :: r, h, p, hp => by
    unfold lookD at h
    split at h
    · cases h
    · rename_i hn
      rcases List.mem_cons.mp hp with z | z
      · rw [z]; exact hn
      · exact look_none h p z
theorem store_keys_old {k : D} {n : NestedKey} {v : D} : ∀ {kvs : List (D × D)}, (lookD n kvs).isSome = true → (storeD k n v kvs).map (fun p => keyOk p.1) = kvs.map fun p => keyOk p.1
  | [], h => by cases h
  | (a, w) :: r, h => by
    unfold storeD
    unfold lookD at h
    split
    · rfl
    · rename_i hn
      rw [if_neg hn] at h
      rw [List.map_cons, List.map_cons, store_keys_old h]
theorem store_nodup {k : D} {n : NestedKey} {v : D} {kvs : List (D × D)} (hk : keyOk k = some n) (nd : (kvs.map fun p => keyOk p.1).Nodup) : ((storeD k n v kvs).map fun p => keyOk p.1).Nodup := by
  cases hl : lookD n kvs with
  | some w => rw [store_keys_old (by rw [hl]; rfl)]; exact nd
  | none =>
    rw [store_new hl, List.map_append, List.nodup_append]
    refine ⟨nd, by simp, fun a ha b hb => ?_⟩
    obtain ⟨p, hp, rfl⟩ := List.mem_map.mp ha
    have : b = keyOk k := by simpa using hb
    rw [this, hk]
    exact look_none hl p hp
/-- d[k] = v by the machine's own step f -/
structure DSet (X : Cx) (f : Addr → Value → Value → PySem.Sem Unit) : Prop where
  hp : ∀ {A : Around} {E : Value → Shared → Prop} {s : Shared} {d a : Addr} {k : NestedKey} {xs : List (NestedKey × Addr × Value)} {v : Value} {Q : Unit → Shared → Prop}, (nestedKind X.prog X.w).room A.in1 → (nestedKind X.prog X.w).room A → (nestedKind X.prog X.w).is s.heap k a → s.heap.DictOfH (nestedKind X.prog X.w) d xs →
    (∀ h' tk, h'.DictOfH (nestedKind X.prog X.w) d (storedH xs k a v) → Heap.SameBut d s.heap h' → Q () { s with heap := h', toks := tk }) → xs.length ≤ sizeLine → wpAny (model X.prog X.w) A (f d (.ref a) v) Q E s
  kp : ∀ {A : Around} {E : Value → Shared → Prop} {s : Shared} {d : Addr} {key : Value} {k : Key} {kvs : List (Key × Value)} {v : Value} {Q : Unit → Shared → Prop}, (mixKind X.prog X.w).is k key = true → s.heap.DictOf (mixKind X.prog X.w) d kvs →
    (∀ h' tk, h'.DictOf (mixKind X.prog X.w) d (stored kvs k v) → Heap.SameBut d s.heap h' → Q () { s with heap := h', toks := tk }) → kvs.length ≤ sizeLine → wpAny (model X.prog X.w) A (f d key v) Q E s
theorem dset_set : DSet X fun d k v => setItem (.ref d) k v :=
  ⟨fun hu _ hk hm hq hz => wpAny_setItem_heap (hsz := hz) hu hk hm fun h' a b => hq h' _ a b, fun hk hm hq hz => wpAny_setItem_pairs (hsz := hz) hk hm fun h' a b => hq h' _ a b⟩
theorem dset_ok {f : Addr → Value → Value → PySem.Sem Unit} (df : DSet X f) (hu : X.A.units + 70 < cLine) (I : Inv X pins σ H s) (sF : Same F H) {d : Addr} {o : Obj} {es : Array DictEntry} {ep : Nat} {kvs : List (D × D)} {k y : D} {vk vy : V} {uk uy : Value} {n : NestedKey} {E : Value → Shared → Prop} {Q : Unit → Shared → Prop} (h : DcO H d o es ep)
    (re : RepE (zx X cls exc) F kvs es.toList) (nd : (kvs.map fun p => keyOk p.1).Nodup) (hz : kvs.length < LIM) (hk : Rep (zx X cls exc) F k vk) (hn : keyOk k = some n) (ho : oneMake k kvs = true) (hy : Rep (zx X cls exc) F y vy) (rk : RelV vk uk) (ry : RelV vy uy)
    (q : ∀ o' es' ep' s', Inv X pins σ (upd H d (dco d o')) s' → DcO (upd H d (dco d o')) d o' es' ep' → RepE (zx X cls exc) F (storeD k n y kvs) es'.toList → Q () s') : wpAny (model X.prog X.w) X.A (f d uk uy) Q E s := by
  have hz2 : kvs.length ≤ sizeLine := by rw [← lim_line]; exact Nat.le_of_lt hz
  have hmut : L2.Mut (H d) := by rw [h.at_]; trivial
  have done : ∀ {h' : Heap} {tk : Nat} {o' : Obj} {es' : Array DictEntry} {ep' : Nat}, Heap.SameBut d s.heap h' → h'.get? d = some o' → o'.ExactDict → o'.data = .dict es' ep' → RepE (zx X cls exc) F (storeD k n y kvs) es'.toList → Q () { s with heap := h', toks := tk } := fun {h' tk o' es' ep'} hs e ex dt rr =>
    q o' es' ep' _ (d_write I hmut hs ⟨o', e⟩ (dco_ok e)) ⟨upd_same, ex, dt, h.sys⟩ rr
  cases ht : isTup k with
  | true =>
    obtain ⟨xs, px, hm⟩ := dct_h I h re sF nd (oneMake_t ho ht)
    cases k with
    | tup ds =>
      obtain ⟨k1, k2⟩ := keyOk_tup hn
      obtain ⟨b, hb⟩ := isTup_ref hk rfl
      subst hb
      cases rk
      have hkey : (nestedKind X.prog X.w).is s.heap n b := ⟨Rep.nested (cls := cls) (exc := exc) I (hk.mono sF) rfl k1, k2⟩
      have hroom : (nestedKind X.prog X.w).room X.A.in1 := by show X.A.units + 1 + 8 < cLine; omega
      have hroom2 : (nestedKind X.prog X.w).room X.A := by show X.A.units + 8 < cLine; omega
      refine df.hp hroom hroom2 hkey hm (fun h' tk dd hs => ?_) (by rw [← px.length]; exact hz2)
      obtain ⟨o', es', ep', e1, e2, e3, e4, _, e5⟩ := dd
      refine done hs e1 e2 e3 ?_
      rw [e4]
      have nd' := nd
      rw [px.keys] at nd'
      rcases px.look (n := n) with ⟨l1, l2⟩ | ⟨w, vv, pp, l1, l2, l3, l4⟩
      · rw [storedH_new l2, store_new l1]
        exact (px.append (.cons hn rfl hk ry hy .nil)).repE
      · rw [storedH_old l2]
        exact (px.put_old ry hy (by rw [l1]; rfl) (nodup_of_map some nd')).repE
    | _ => cases ht
  | false =>
    obtain ⟨xs, px, hm⟩ := dct_k I h re nd (oneMake_f ho ht)
    obtain ⟨k, rfl, rfl⟩ := keyOk_leaf hn ht
    have hkey : (mixKind X.prog X.w).is k uk = true := by
      cases k with
      | inl i => cases hk; obtain ⟨t, rfl⟩ := rk; exact keyIs_int i t
      | inr z => cases hk; obtain ⟨t, rfl⟩ := rk; exact keyIs_str z t
    refine df.kp hkey hm (fun h' tk dd hs => ?_) (by rw [← px.length]; exact hz2)
    obtain ⟨o', es', ep', e1, e2, e3, e4, e5, e6⟩ := dd
    refine done hs e1 e2 e3 ?_
    have nd' := nd
    rw [px.keys] at nd'
    have py' : PY (zx X cls exc) F (storeD (kd k) (kn k) y kvs) (stored xs k uy) := by
      unfold stored
      rcases px.look (q := k) with ⟨l1, l2⟩ | ⟨w, vv, pp, l1, l2, l3, l4⟩
      · have hany : (xs.any fun kv => decide (kv.1 = k)) = false := by
          rw [List.any_eq_false]
          intro x hx hxk
          unfold valueAt at l2
          have h3 := Option.map_eq_none_iff.mp l2
          have := List.find?_eq_none.mp h3 x hx
          exact this hxk
        rw [hany, if_neg (by decide), store_new l1]
        exact px.append (.cons ry hy .nil)
      · have hany : (xs.any fun kv => decide (kv.1 = k)) = true := by
          unfold valueAt at l2
          obtain ⟨x, h3, _⟩ := Option.map_eq_some_iff.mp l2
          rw [List.any_eq_true]
          exact ⟨x, List.mem_of_find?_eq_some h3, by simpa using List.find?_some h3⟩
        rw [hany, if_pos rfl]
        exact px.put_old ry hy (by rw [l1]; rfl) (nodup_of_map _ nd')
    exact py'.repE e5 fun e he => e4 e (by simpa using he)
def rSetV (Z : Zx) : TSet := fun o i v H Q => (∃ p ys k j, o = .ref p ∧ i = .int k ∧ H p = some (.lst ys) ∧ ixN ys.length k = some j ∧ Q (upd H p (.lst (ys.set j v)))) ∨
  ∃ F d ob es ep kvs k y n, o = .ref d ∧ Same F H ∧ DcO H d ob es ep ∧ RepE Z F kvs es.toList ∧ (kvs.map fun p => keyOk p.1).Nodup ∧ kvs.length < LIM ∧ Rep Z F k i ∧ keyOk k = some n ∧ oneMake k kvs = true ∧ Rep Z F y v ∧
    ∀ o' es' ep', DcO (upd H d (dco d o')) d o' es' ep' → RepE Z F (storeD k n y kvs) es'.toList → Q (upd H d (dco d o'))
theorem set_V (hu : X.A.units + 70 < cLine) : PSet X (rSetV (zx X cls exc)) := by
  intro pins s σ H o i v ov iv u Q I ro ri rv h
  rcases h with ⟨p, ys, k, j, e1, e2, e3, e4, q⟩ | ⟨F, d, ob, es, ep, kvs, k, y, n, e1, sF, hd, re, nd, hz, hk, hn, ho, hy, q⟩
  · exact set_list pins s σ H o i v ov iv u Q I ro ri rv ⟨p, ys, k, j, e1, e2, e3, e4, q⟩
  · subst e1
    cases ro
    exact dset_ok dset_set hu I sF hd re nd hz hk hn ho hy ri rv fun o' es' ep' s' I' hd' re' => ⟨_, I', q o' es' ep' hd' re'⟩
theorem ixN_pos {n : Nat} {k : Int} (h0 : 0 ≤ k) (h1 : k < n) : ixN n k = some k.toNat := by
  unfold ixN
  first
    | rw [if_pos h0, if_pos h1]
    | (rw [if_pos ⟨h0, h1⟩])
    | (simp only [h0, h1, if_true, and_self])
    | (split <;> first | rfl | omega | (split <;> first | rfl | omega))
theorem ps_stoV (hu : X.A.units + 70 < cLine) {i : Nat} {y : Str} {k v : Expr} {pn ps pos : Pos} (hN : X.N[i]? = some y) (hv : Vis X.env.scope y) (hk : PE X k (tE X cls exc W G C xk)) (he : PE X v (tE X cls exc W G C xv)) (hd : (y == ("__debug__" : Str)) = false := by decide) (hcd : (y == ("__classdict__" : Str)) = false := by decide)
    (ha : ∀ v, assign (.Subscript (.Name y pn) k ps) X.env v = (do
      let ov ← holding [v] (eval (.Name y pn) X.env)
      let iv ← holding [v, ov] (eval k X.env)
      standAt ps
      holding [v, ov, iv] (setItem ov iv v)
      release [v, ov, iv] []) := by intro _; rfl)
    (hs : swapsWithSole [.Subscript (.Name y pn) k ps] v pos.line X.env = pure false := by rfl) (hw : swappedStores [.Subscript (.Name y pn) k ps] v X.env = pure none := by rfl)
    (h1 : (assignEach [.Subscript (.Name y pn) k ps] X.env).map (·.2) = [assign (.Subscript (.Name y pn) k ps) X.env] := by rfl) : PS X (.Assign [.Subscript (.Name y pn) k ps] v pos) (tSt X cls exc W G C (.sto i xk xv)) := by
  refine (ps_asg he (pg_sub (pe_var hN hv hd hcd) hk (set_V (cls := cls) (exc := exc) hu) ha) hs hw h1).cons fun D σ H ⟨r, F, fp, R, g⟩ => ?_
  rw [evS] at g
  obtain ⟨r0, F0, fp0, R0, g0⟩ := stepS R (.refl ..) g
  refine ⟨r0, F0, fp0, R0, g0.mono fun x1 H1 ⟨va, r1, F1, fp1, f1, A1, g1⟩ => ?_⟩
  split at g1
  · exact g1.elim
  · rename_i d0 hs0
    obtain ⟨o0, ho0⟩ := slot_val A1.R hs0
    refine ⟨o0, ho0, ?_⟩
    obtain ⟨r2, F2, fp2, R2, g2⟩ := stepS A1.R A1.e g1
    refine ⟨r2, F2, fp2, R2, g2.mono fun x2 H2 ⟨vk, r3, F3, fp3, f3, A3, g3⟩ => ?_⟩
    obtain ⟨⟨ds, r4⟩, ht, g4⟩ := g3.orOut
    have A4 : Aft (Z := zx X cls exc) (σ := σ) (PVls (zx X cls exc) σ) ⟨r, fp, F, H⟩ ⟨r1, fp1, F1, H1⟩ [x2] H2 [vk] r3 F3 fp3 (f3 ++ []) := ⟨A3.e, A3.e1, A3.R, ⟨f3, [], rfl, A3.p, rfl, fun _ _ z => nomatch z⟩, fun c hc => A3.f1 c (by simpa using hc)⟩
    obtain ⟨p1, p2⟩ := VRL.cons_aft A1 A4 (.refl ..)
    have A5 : Aft (Z := zx X cls exc) (σ := σ) (PVls (zx X cls exc) σ) ⟨r, fp, F, H⟩ ⟨r, fp, F, H⟩ [x1, x2] H2 [va, vk] r3 F3 fp3 (f1 ++ (f3 ++ [])) := ⟨A3.e, A3.e, A3.R, p1, p2⟩
    obtain ⟨F4, R4, p4, e4, _⟩ := take_vals A5 (.refl ..) ht
    dsimp only at g4
    unfold stoO at g4
    split at g4
    · rename_i x n xs hi
      split at g4
      · rename_i hn
        obtain ⟨w1, w2, hw, q1, q2⟩ := p4.two
        cases hw
        cases q2
        obtain ⟨p, hp, hown, hnone⟩ := R4.own i _ hi
        rw [ho0] at hp; cases hp
        obtain ⟨hfp, ys, hH, hz, hr⟩ := id hown
        have hlen := hr.length
        obtain ⟨R5, x5⟩ := R4.wlist (ds' := xs.set n.toNat x) (ys := ys.set n.toNat x1) hi ho0 (by rw [List.length_set]; exact hz) (hr.set _ q1)
        exact .inl ⟨p, ys, n, n.toNat, rfl, rfl, hH, ixN_pos hn.1 (by rw [← hlen]; exact hn.2), g4.nx (e4.trans x5) R5⟩
      · exact g4.elim
    · rename_i x y kvs hi
      obtain ⟨kvs', hkv, g5⟩ := g4.orOut
      unfold putKey at hkv
      split at hkv
      · rename_i n hn
        split at hkv
        · rename_i hc
          cases hkv
          obtain ⟨w1, w2, hw, q1, q2⟩ := p4.two
          cases hw
          obtain ⟨p, hp, hown, hnone⟩ := R4.own i _ hi
          rw [ho0] at hp; cases hp
          obtain ⟨hfp, ob, es, ep, hd1, hd2, hd3, hd4⟩ := id hown
          refine .inr ⟨F4, p, ob, es, ep, kvs, y, x, n, rfl, R4.same, hd1, hd2, hd3, hc.2, q2, hn, hc.1, q1, fun o' es' ep' hd' re' => ?_⟩
          have hz' : (storeD y n x kvs).length ≤ sizeLine := by
            have h1 := storeD_len (k := y) (n := n) (v := x) kvs
            have h2 := hc.2
            rw [← lim_line]
            omega
          obtain ⟨R5, x5⟩ := R4.write (d' := .dct (storeD y n x kvs)) (H' := upd H2 p (dco p o')) hi ho0 (fun a ha => upd_ne fun z => ha (by rw [hfp, z]; simp)) ⟨hfp, o', es', ep', hd', re', store_nodup hn hd3, hz'⟩
          exact g5.nx (e4.trans x5) R5
        · cases hkv
      · cases hkv
    · exact g4.elim
/-! ### {} -/
theorem new_dict {Q : VK} (I : Inv X pins σ H s) {tk : Nat} (q : ∀ (p : Addr) (o : Obj), H p = none → DcO (upd H p (dco p o)) p o #[] 0 → Q (.ref p) (upd H p (dco p o))) : EP X pins σ Q (.ref s.heap.objs.size) { s with heap := s.heap.push { cls := .type "dict", data := .dict #[] }, toks := tk } := by
  have hf : H s.heap.objs.size = none := I.hok.fresh (Nat.le_refl _)
  refine ⟨.ref s.heap.objs.size, upd H s.heap.objs.size (dco s.heap.objs.size { cls := .type "dict", data := .dict #[] }), I.laid (t' := tk) (fun b u e => Heap.get?_push_of_some _ e) (Nat.le_refl _) (dco_ok (Heap.get?_push_size _ rfl)), rfl, q _ _ hf ⟨upd_same, ⟨rfl, rfl, rfl⟩, rfl, ?_⟩⟩
  exact beq_eq_false_iff_ne.mpr (Ne.symm (Nat.ne_of_lt I.big))
def tDNew : TE := fun _ H Q => ∀ (p : Addr) (o : Obj), H p = none → DcO (upd H p (dco p o)) p o #[] 0 → Q (.ref p) (upd H p (dco p o))
theorem pe_dnew : PE X (.Dict [] [] pos) tDNew := ⟨fun pins s σ H Q I h => wpAny_Dict_empty (new_dict (tk := s.toks) I h)⟩
theorem pe_dic0V : PE X (.Dict [] [] pos) (tE X cls exc W G C (.dic .nil)) := by
  refine pe_dnew.cons fun σ H Q ⟨r, F, fp, R, g⟩ p o hp hd => ?_
  rw [evE, evP] at g
  have n := New.lst (o := dco p o) R.same hp
  have g1 : ResV (zx X cls exc) F H Q (.own (.dct [])) := ResV.of (b := ⟨r, fp, F, H⟩) R (.refl ..) (fun i z => by cases z) g
  exact g1 p [p] F _ n ⟨rfl, o, #[], 0, hd, .nil, List.nodup_nil, Nat.zero_le _⟩ fun a ha => by
    rw [List.mem_singleton.mp ha]
    exact ⟨R.same.free hp, hp⟩
end
end VL
end
section
/-! V25: raise; try with several handlers, named or not. -/
namespace L2
open PySem PySem.Spec PyProof.Rows
section
variable {X : Cx} {C : Addr} {bmB : List Value} {B newId initId : String}
/-- X() -/
theorem pmk_own0 {x : Str} {p pos : Pos} (F : ExcBaseFacts B newId initId bmB) (q : PySem.W.excIn X.K C bmB newId = true) (gC : X.mg x = some (.ref C)) (kC : PySem.W.keepIn X.K (.ref C) = true) (r : Raises X (.ref C)) (hg : Gl X x)
    (hdb : (x == ("__debug__" : Str)) = false := by decide) : PMk X (.Call (.Name x p) [] [] pos) (fun _ H Q => Q (.ref C) none H) := by
  intro pins s σ H Q I h
  refine wpAny_Call_Name_kw (ld_glob I hg gC ?_ hdb)
  refine PySem.W.callWith_K0 I.kIn kC ?_
  obtain ⟨bm, N, nm, qn, bs, hdct, sn, sub, ab, col, dd, k0, k1, k2, k3, k5, mN, hC, hN, hni, T⟩ := exc_obj I.kIn q
  refine wpAny_call_exc_subT F T hC hN hni (fun h' e hm => ?_) (Nat.zero_le _)
  exact mk_of I hm r h (I.hok.gone hm.new)
theorem pmk_own0N {x : Str} {p pos : Pos} (F : ExcBaseFacts B newId initId bmB) (q : PySem.W.excIn X.K C bmB newId = true) (gC : X.mg x = some (.ref C)) (kC : PySem.W.keepIn X.K (.ref C) = true) (r : Raises X (.ref C)) (hg : Gl X x)
    (hdb : (x == ("__debug__" : Str)) = false := by decide) : L2N.PMk X (.Call (.Name x p) [] [] pos) (fun _ H Q => Q (.ref C) none H) := by
  intro pins s σ H Q I h
  refine wpAny_Call_Name_kw (ld_glob I hg gC ?_ hdb)
  refine PySem.W.callWith_K0 I.kIn kC ?_
  obtain ⟨bm, N, nm, qn, bs, hdct, sn, sub, ab, col, dd, k0, k1, k2, k3, k5, mN, hC, hN, hni, T⟩ := exc_obj I.kIn q
  refine wpAny_call_exc_subT F T hC hN hni (fun h' e hm => ?_) (Nat.zero_le _)
  exact L2N.mk_of I hm r h (I.hok.gone hm.new)
end
abbrev HdT := Value × Option Nat × (Addr → Value → Option Addr → TS)
/-- the end of a suite: its name is gone -/
def endN (D : Ends) : Option Nat → Ends
  | none => D
  | some i => { nx := fun σ' H' => D.nx (σ'.set i none) H', rt := D.rt, bk := fun σ' H' => D.bk (σ'.set i none) H', ct := fun σ' H' => D.ct (σ'.set i none) H' }
def setN (σ : St) (a : Addr) : Option Nat → St
  | none => σ
  | some i => σ.set i (some (.ref a))
def wMix (K : PySem.W.Frag) (Wout : WX) (D : Ends) : List HdT → WX
  | [] => Wout
  | (c, n, ts) :: r => fun cls d σ H => ∃ b, PySem.W.exmOne K cls c = some b ∧ (b = true → ∀ a, H a = none → ts a cls d (endN D n) (setN σ a n) H) ∧ (b = false → wMix K Wout D r cls d σ H)
inductive HdsMix (X : Cx) : List ExceptHandler → List HdT → Prop
  | nil : HdsMix X [] []
  | cons {x : Str} {c : Value} {ts : Addr → Value → Option Addr → TS} {b₀ : Stmt} {suite : List Stmt} {np pos' : Pos} {hds : List ExceptHandler} {l : List HdT} (hc : Names X x c)
      (hsu : ∀ (a : Addr) (oe : Obj) (cls : Value) (d : Option Addr) (pn : List (Addr × Obj)), Zc cls d oe → (∃ vs, oe.data = .fields vs) → PSs (X.suite a ((a, oe) :: pn)) (b₀ :: suite) (ts a cls d)) (r : HdsMix X hds l) :
      HdsMix X (.ExceptHandler (some (.Name x np)) none (b₀ :: suite) pos' :: hds) ((c, none, ts) :: l)
  | named {x n : Str} {i : Nat} {c : Value} {ts : Addr → Value → Option Addr → TS} {b₀ : Stmt} {suite : List Stmt} {np pos' : Pos} {hds : List ExceptHandler} {l : List HdT} (hc : Names X x c) (hN : X.N.Nodup) (hi : X.N[i]? = some n) (hln : X.env.kindOf n = some .local)
      (hsu : ∀ (a : Addr) (oe : Obj) (cls : Value) (d : Option Addr) (pn : List (Addr × Obj)), Zc cls d oe → (∃ vs, oe.data = .fields vs) → PSs (X.suite a ((a, oe) :: pn)) (b₀ :: suite) (ts a cls d)) (r : HdsMix X hds l) :
      HdsMix X (.ExceptHandler (some (.Name x np)) (some n) (b₀ :: suite) pos' :: hds) ((c, some i, ts) :: l)
section
variable {X : Cx} {body : List Stmt} {h₀ : ExceptHandler} {hds : List ExceptHandler} {l : List HdT} {pos : Pos} {tb : WX → TS} {Wout : WX}
theorem ps_try_mix (hs : X.stack = X.env :: X.outer) (hf : X.env.frame = some X.env.locals) (tk : Takes X Wout)
    (hb : ∀ (W : WX) (pn : List (Addr × Obj)) (xe : Value → Shared → Prop), Takes (X.tr pn xe) W → PassesOwn (model X.prog X.w) X.A X.env xe → PSs (X.tr pn xe) body (tb W))
    (hh : HdsMix X (h₀ :: hds) l) : PS X (.Try body (h₀ :: hds) [] [] pos) (fun D σ H => tb (wMix X.K Wout D l) D σ H) := by
  refine ⟨fun pins s σ H D I h => ?_⟩
  have ok := I.ok
  have hfr : X.A.frames = some (X.env :: X.outer) := by rw [ok.frames, hs]
  refine wpAny_Try_except ?_
  refine wpAny_mono ((hb (wMix X.K Wout D l) (X.pn ++ pins) (fun e s₁ => wpAny (model X.prog X.w) X.A (noteFrame e X.env) (fun _ s₂ => wpAny (model X.prog X.w) X.A (setFlight e none) (fun _ s₃ =>
    wpAny (model X.prog X.w) X.A (handleBy e X.env (h₀ :: hds)) (SP X pins D) X.xe s₃) X.xe s₂) X.xe s₁) (fun u s' xx => ?_) PassesOwn.looking).run [] s σ H D (I.toTry _) h) (fun f s1 hsp => ?_) (fun e s1 he => he)
  · obtain ⟨a, B, sI, pins', σ', H', cls, d, rfl, J', nb, up, sky, na, os, ag, w⟩ := xx
    have J : Inv X pins σ' H' sI := J'.ofTry ok
    have sky' : Sky B (X.env :: X.outer) a (Zc cls d) X.env.locals s'.heap := by rw [← hs]; exact sky
    show wpAny (model X.prog X.w) X.A (noteFrame (.ref a) X.env) _ _ _
    refine Sky.land Zc.steady hfr hf sky' fun h3 fl3 up3 => ?_
    have J3 : Inv X pins σ' H' { s' with heap := h3 } := J.landed nb fl3.1 (up.trans up3) os ag
    obtain ⟨oe3, vs3, he3, hz3, hd3⟩ := fl3.there
    have notFr : ∀ {h : Heap} {o : Obj} {vs : Array Value}, h.FunFrames B (X.env :: X.outer) → h.get? a = some o → o.data = .fields vs → a ∉ frs (X.env :: X.outer) := fun {h o vs} ff e dd hm => by
      obtain ⟨_, o', e', hnf⟩ := ff.mem hm
      rw [e] at e'; cases e'
      exact hnf _ dd
    have nfr := notFr fl3.2.2.1 he3 hd3
    have nL : a ≠ X.env.locals := fun z => nfr (List.mem_filterMap.mpr ⟨X.env, List.mem_cons_self, by rw [hf, z]⟩)
    have nF : a ∉ X.fs := fun hm => by
      obtain ⟨e, he, q⟩ := List.mem_filterMap.mp hm
      exact nfr (List.mem_filterMap.mpr ⟨e, List.mem_cons_of_mem _ he, q⟩)
    have S3 := J3.suite he3 hd3 na nL nF
    have LT : PySem.W.Looks (model X.prog X.w) h3 (typeOf (.ref a)) cls := fun A Q E s k q => wpAny_typeOf_ref (k _ _ he3) (by rw [hz3.1]; exact q)
    have test : ∀ {x : Str} {np : Pos} {c : Value} {Q : Value → Shared → Prop} {E : Value → Shared → Prop}, Names X x c → Q c { s' with heap := h3 } → wpAny (model X.prog X.w) (X.A.mark (some (.ref a))) (eval (.Name x np) X.env) Q E { s' with heap := h3 } := fun {x np c Q E} hc q => by
      obtain ⟨hg, hdbg, hm | ⟨hm, hv, hnn⟩⟩ := hc
      · exact ld_glob (X := X.suite a ((a, oe3) :: (X.pn ++ pins))) S3 hg hm q hdbg
      · exact ld_blt (X := X.suite a ((a, oe3) :: (X.pn ++ pins))) S3 hg hm hv q hnn hdbg
    have go : ∀ {hds' : List ExceptHandler} {l' : List HdT}, HdsMix X hds' l' → wMix X.K Wout D l' cls d σ' H' →
        wpAny (model X.prog X.w) X.A (handleBy (.ref a) X.env hds') (SP X pins D) X.xe { s' with heap := h3 } := by
      intro hds' l' hk
      induction hk with
      | nil =>
        intro w
        refine wpAny_handleBy_nil ?_
        obtain ⟨k1, k2, k3, oe, vs, T, oT, ts', he, hz, hd, h1, hr⟩ := id fl3
        unfold PySem.passOn
        refine wpAny_bind (wpAny_field he hd h1 ?_)
        rw [if_neg (show ¬ ((Value.ref T == Value.none) = true) from by simp)]
        have fin : wpAny (model X.prog X.w) X.A (setFlight (.ref a) X.env.frame) (fun _ s4 => wpAny (model X.prog X.w) X.A (throw (.ref a) : Sem Flow) (SP X pins D) X.xe s4) X.xe { s' with heap := h3 } := by
          rw [hf]
          refine HandSPX.setFlight_upZ fl3 fun h4 hh4 up4 => wpAny_throw (tk _ _ ?_)
          exact ⟨a, B, sI, pins, σ', H', cls, d, rfl, J, nb, (up.trans up3).trans up4, .inr (.inr (by rw [hs]; exact hh4)), na, os, ag, w⟩
        first
          | exact wpAny_bind (wpAny_pure (wpAny_bind fin))
          | exact wpAny_bind fin
      | @cons x c ts b₀ suite np pos' hds2 l2 hc hsu r ih =>
        intro w
        obtain ⟨b, hb1, hyes, hno⟩ := w
        refine wpAny_handleBy_cons (codeAny_handlers_test ?_) (by intro q; cases q)
        have LM := PySem.W.exm_one (M := model X.prog X.w) (J3.kIn) LT hb1
        refine test hc (LM.here ?_)
        cases b with
        | true =>
          refine codeAny_handlers_suite ?_
          refine HandSPX.lands_againZ fl3 fun h4 fl4 up4 => ?_
          have J4 : Inv X pins σ' H' { s' with heap := h4 } := J.landed nb fl4.1 ((up.trans up3).trans up4) os ag
          obtain ⟨oe4, vs4, he4, hz4, hd4⟩ := fl4.there
          have S4 := J4.suite he4 hd4 na nL nF
          refine wpAny_mono ((hsu a oe4 cls d (X.pn ++ pins) hz4 ⟨_, hd4⟩).run [] _ _ H' _ S4 (hyes rfl a na)) (fun f s6 hsp => ?_) (fun _ _ z => False.elim z)
          cases f with
          | next =>
            obtain ⟨σ6, H6, S6, q6⟩ := hsp
            exact ⟨_, _, S6.unsuite ok, q6⟩
          | brk =>
            obtain ⟨σ6, H6, S6, q6⟩ := hsp
            exact ⟨_, _, S6.unsuite ok, q6⟩
          | cont =>
            obtain ⟨σ6, H6, S6, q6⟩ := hsp
            exact ⟨_, _, S6.unsuite ok, q6⟩
          | ret u =>
            obtain ⟨v6, σ6, H6, S6, r6, q6⟩ := hsp
            exact ⟨_, _, _, S6.unsuite ok, r6, q6⟩
        | false =>
          show wpAny _ X.A (handleBy (.ref a) X.env hds2) _ _ _
          exact ih (hno rfl)
      | @named x n i c ts b₀ suite np pos' hds2 l2 hc hN hi hln hsu r ih =>
        intro w
        obtain ⟨b, hb1, hyes, hno⟩ := w
        refine wpAny_handleBy_cons (codeAny_handlers_test ?_) (by intro q; cases q)
        have LM := PySem.W.exm_one (M := model X.prog X.w) (J3.kIn) LT hb1
        refine test hc (LM.here ?_)
        cases b with
        | true =>
          refine codeAny_handlers_suite_as ?_
          refine HandSPX.lands_againZ fl3 fun h4 fl4 up4 => ?_
          have J4 : Inv X pins σ' H' { s' with heap := h4 } := J.landed nb fl4.1 ((up.trans up3).trans up4) os ag
          obtain ⟨oe4, vs4, he4, hz4, hd4⟩ := fl4.there
          have S4 := J4.suite he4 hd4 na nL nF
          refine store_ok (X := X.suite a ((a, oe4) :: (X.pn ++ pins))) (v := .ref a) S4 hN hi (.inl hln) rfl (fun s5 S5 => ?_) (.inr hln)
          refine wpAny_mono ((hsu a oe4 cls d (X.pn ++ pins) hz4 ⟨_, hd4⟩).run [] s5 _ H' _ S5 (hyes rfl a na)) (fun f s6 hsp => ?_) (fun _ _ z => False.elim z)
          have end_ : ∀ {σ6 : St} {H6 : Hp} {Q : Shared → Prop}, Inv (X.suite a ((a, oe4) :: (X.pn ++ pins))) [] σ6 H6 s6 → (∀ s7, Inv X pins (σ6.set i none) H6 s7 → Q s7) →
              wpAny (model X.prog X.w) X.A (do bindName X.env n .none; unbindBehindTheSuite X.env n pos') (fun _ s7 => Q s7) X.xe s6 := fun {σ6 H6 Q} S6 hq => gone_ok (S6.unsuite ok) hN hi hln hq
          cases f with
          | next =>
            obtain ⟨σ6, H6, S6, q6⟩ := hsp
            exact end_ S6 fun s7 J7 => ⟨_, _, J7, q6⟩
          | brk =>
            obtain ⟨σ6, H6, S6, q6⟩ := hsp
            exact end_ S6 fun s7 J7 => ⟨_, _, J7, q6⟩
          | cont =>
            obtain ⟨σ6, H6, S6, q6⟩ := hsp
            exact end_ S6 fun s7 J7 => ⟨_, _, J7, q6⟩
          | ret u =>
            obtain ⟨v6, σ6, H6, S6, r6, q6⟩ := hsp
            exact end_ S6 fun s7 J7 => ⟨_, _, _, J7, r6, q6⟩
        | false =>
          show wpAny _ X.A (handleBy (.ref a) X.env hds2) _ _ _
          exact ih (hno rfl)
    exact go hh w
  · cases f with
    | next =>
      obtain ⟨σ', H', J', q⟩ := hsp
      exact wpAny_execs_nil ⟨σ', H', J'.ofTry ok, q⟩
    | brk =>
      obtain ⟨σ', H', J', q⟩ := hsp
      exact ⟨σ', H', J'.ofTry ok, q⟩
    | cont =>
      obtain ⟨σ', H', J', q⟩ := hsp
      exact ⟨σ', H', J'.ofTry ok, q⟩
    | ret u =>
      obtain ⟨v, σ', H', J', r, q⟩ := hsp
      exact ⟨v, σ', H', J'.ofTry ok, r, q⟩
end
end L2
end
section
/-! V26: what a walk takes by name. -/
namespace VL
open PySem PySem.Spec PyProof.Rows L2
/-- a def of the module, by its promise -/
structure Cal (P : Program) (w : World) (K : PySem.W.Frag) (mg : Str → Option Value) (base : Heap) (cls : List Zc) (exc : List (Addr × List Str)) (x : Str) (k : Nat) (fn : Fd) : Prop where
  ex : ∃ (f : Addr) (fd : FuncData) (ps : List Str), FnOk P w K mg base (L2N.CX P w) k f fd ps (spV ⟨P, w, K, ⟨cls, [], []⟩, exc⟩ fn) ∧ PySem.W.keepIn K (.ref f) = true ∧ Binds K fd ps [] ∧ mg x = some (.ref f)
section
variable {X : Cx} {cls : Clz} {exc : List (Addr × List Str)} {W : WX} {G : List Fd} {C : List D} {e : Expr} {es : List Expr} {xs : Ar}
theorem pe_calV {k n j : Nat} {fn : Fd} {x : Str} {p pos : Pos} (c : Cal X.prog X.w X.K X.mg X.base cls.l exc x k fn) (hr : Room n X.A) (hkn : k ≤ n) (hg : Gl X x) (tk : L2N.Takes X W)
    (hG : G[j]? = some fn) (hl : fn.lent = [] ∨ (fn.lent = [true] ∧ 0 < fn.np)) (ha : PA X (e :: es) (tA X cls exc W G C xs)) (hdb : (x == ("__debug__" : Str)) = false := by decide) (he : starEach (e :: es) X.env = (false, eval e X.env) :: starEach es X.env := by rfl) (hpl : (backTo pos (starEach es X.env)).any (·.1) = false := by rfl) (hx : cls.xl = [] := by rfl) :
    PE X (.Call (.Name x p) (e :: es) [] pos) (tE X cls exc W G C (.call j xs)) := by
  obtain ⟨cl, cp, cx⟩ := cls
  obtain rfl : cx = [] := hx
  obtain ⟨f, fd, ps, F, hk, hb, hm⟩ := c.ex
  exact pe_callV F (hr.mono hkn) hg hm hk hb tk hG hl ha hdb he hpl
theorem hu_of {k : Nat} (hr : Room k X.A) : X.A.units + 70 < cLine := by have := hr.un; omega
theorem pv' (i : Nat) {x : Str} {pos : Pos} (hN : X.N[i]? = some x := by rfl) (hv : Vis X.env.scope x := by first | exact Or.inl rfl | exact Or.inr (Or.inl rfl) | exact Or.inr (Or.inr rfl)) (hd : (x == ("__debug__" : Str)) = false := by decide) (hcd : (x == ("__classdict__" : Str)) = false := by decide) : PE X (.Name x pos) (tE X cls exc W G C (.var i)) := pe_varV hN hv hd hcd
end
end VL
end
section
/-! V27: raise of the program's classes. -/
namespace VL
open PySem PySem.Spec PyProof.Rows L2
section
variable {X : Cx} {cls : Clz} {exc : List (Addr × List Str)} {W : WX} {G : List Fd} {C : List D} {e : Expr} {es : List Expr} {xs : Ar} {pos : Pos}
/-- X(e, ..): its fields off its own dict -/
def tMkN (CA : Addr) (names : List Str) (ta : TA) : L2.St → Hp → XK → Prop := fun σ H Q => ta σ H fun vs H1 => vs.length = names.length ∧
  ∀ d l, H1 d = none → (∀ (k : Nat) (f : Str) (v : V), names[k]? = some f → vs[k]? = some v → l.lookup f = some v) → Q (.ref CA) (some d) (upd H1 d (.xd l))
theorem ps_raiNV {c n : Nat} {CA : Addr} {names : List Str} (hx : exc[c]? = some (CA, names)) (hn : names.length = n) (hc : X.calm = true) (tk : L2N.Takes X W) (he : L2N.PMk X e (tMkN CA names (tA X cls exc W G C xs))) : PS X (.Raise (some e) none pos) (tSt X cls exc W G C (.rai c n xs)) := by
  refine (L2N.ps_raise hc tk he).cons fun D σ H ⟨r, F, fp, R, g⟩ => ?_
  rw [evS] at g
  obtain ⟨r0, F0, fp0, R0, g0⟩ := stepSA R (.refl ..) g
  refine ⟨r0, F0, fp0, R0, g0.mono fun ys H1 ⟨vs, r1, F1, fp1, f1, A1, g1⟩ => ?_⟩
  obtain ⟨⟨ds, r2⟩, h2, g2⟩ := g1.orOut
  dsimp only at g2
  split at g2
  · rename_i hl
    obtain ⟨F2, R2, p2, e2, _⟩ := take_vals A1 (.refl ..) h2
    refine ⟨by rw [← p2.length, hl, hn], fun d l hd hk => ?_⟩
    have nw := New.tup (o := .xd l) R2.same hd
    exact g2 (.ref CA) (some d) σ _ _ fp1 (e2.trans nw.ext) (nw.rel R2) ⟨CA, names, hx, rfl, by rw [hl, hn], .inr ⟨d, ys, l, rfl, upd_same, hk, p2.mono nw.sF⟩⟩
  · exact g2.elim
theorem ps_rai0V {c : Nat} {CA : Addr} (hx : exc[c]? = some (CA, [])) (hc : X.calm = true) (tk : L2N.Takes X W) (he : L2N.PMk X e (fun _ H Q => Q (.ref CA) none H)) : PS X (.Raise (some e) none pos) (tSt X cls exc W G C (.rai c 0 .nil)) := by
  refine (L2N.ps_raise hc tk he).cons fun D σ H ⟨r, F, fp, R, g⟩ => ?_
  rw [evS] at g
  exact g (.ref CA) none σ F H fp (.refl ..) R ⟨CA, [], hx, rfl, rfl, .inl ⟨rfl, rfl⟩⟩
end
end VL
end
section
/-! V28: the program's exception classes, fields, constants, by name. -/
namespace VL
open PySem PySem.Spec PyProof.Rows L2
/-- a class of errors without fields -/
structure Exc0 (K : PySem.W.Frag) (mg : Str → Option Value) (exc : List (Addr × List Str)) (c : Nat) (x : Str) : Prop where
  ex : ∃ (CA : Addr) (bmB : List Value) (B newId initId : String), exc[c]? = some (CA, []) ∧ ExcBaseFacts B newId initId bmB ∧ PySem.W.excIn K CA bmB newId = true ∧ mg x = some (.ref CA) ∧ PySem.W.keepIn K (.ref CA) = true ∧
    PySem.W.subIn K (.ref CA) (.type "BaseException") = some true ∧ PySem.W.typeIn K (.ref CA) = some (.type "type")
/-- a class of errors whose __init__ stores its arguments -/
structure ExcN (P : Program) (w : World) (K : PySem.W.Frag) (mg : Str → Option Value) (base : Heap) (exc : List (Addr × List Str)) (c n : Nat) (x : Str) : Prop where
  ex : ∃ (CA : Addr) (names : List Str), exc[c]? = some (CA, names) ∧ names.length = n ∧ ∀ (X : Cx), X.prog = P → X.w = w → X.K = K → X.mg = mg → X.base = base → Gl X x → ∀ (k : Nat), Room (k + 2) X.A → ∀ (e : Expr) (es : List Expr) (ta : TA) (p pos : Pos), PA X (e :: es) ta →
    starEach (e :: es) X.env = (false, eval e X.env) :: starEach es X.env → (backTo pos (starEach es X.env)).any (·.1) = false → L2N.PMk X (.Call (.Name x p) (e :: es) [] pos) (tMkN CA names ta)
/-- a class of objects -/
structure ObjC (K : PySem.W.Frag) (cls : List Zc) (c : Nat) (names : List Str) : Prop where
  ex : ∃ ci, cls[c]? = some ci ∧ ClsOk K ci ∧ ci.names = names
section
variable {X : Cx} {cls : Clz} {exc : List (Addr × List Str)} {W : WX} {G : List Fd} {C : List D} {a e : Expr} {es : List Expr} {xs : Ar} {xa : Ex} {pos p pos2 : Pos} {x : Str}
theorem ps_rai0E {c : Nat} (h : Exc0 X.K X.mg exc c x) (hg : Gl X x) (hc : X.calm = true) (tk : L2N.Takes X W) (hdb : (x == ("__debug__" : Str)) = false := by decide) : PS X (.Raise (some (.Call (.Name x p) [] [] pos)) none pos2) (tSt X cls exc W G C (.rai c 0 .nil)) := by
  obtain ⟨CA, bmB, B, newId, initId, h1, h2, h3, h4, h5, h6, h7⟩ := h.ex
  exact ps_rai0V h1 hc tk (pmk_own0N h2 h3 h4 h5 (raises_own h6 h7) hg hdb)
theorem ps_raiNE {c n k : Nat} (h : ExcN X.prog X.w X.K X.mg X.base exc c n x) (hr : Room (k + 2) X.A) (hg : Gl X x) (hc : X.calm = true) (tk : L2N.Takes X W) (ha : PA X (e :: es) (tA X cls exc W G C xs))
    (he : starEach (e :: es) X.env = (false, eval e X.env) :: starEach es X.env := by rfl) (hpl : (backTo pos (starEach es X.env)).any (·.1) = false := by rfl) : PS X (.Raise (some (.Call (.Name x p) (e :: es) [] pos)) none pos2) (tSt X cls exc W G C (.rai c n xs)) := by
  obtain ⟨CA, names, h1, h2, h3⟩ := h.ex
  exact ps_raiNV h1 h2 hc tk (h3 X rfl rfl rfl rfl rfl hg k hr e es _ p pos ha he hpl)
theorem pe_fldE {c k : Nat} {names : List Str} {f : Str} (h : ObjC X.K cls.l c names) (hf : names[k]? = some f) (ha : PE X a (tE X cls exc W G C xa)) (hb : attributeBase a f X.env (eval a X.env) = eval a X.env := by rfl) : PE X (.Attribute a f pos) (tE X cls exc W G C (.fld c k xa)) := by
  obtain ⟨ci, h1, h2, h3⟩ := h.ex
  exact pe_fldV h1 h2 (by rw [h3]; exact hf) hb ha
theorem pe_glbI {j : Nat} {i : Int} (hC : C[j]? = some (.int i)) (hg : Gl X x) (hm : ∃ t, X.mg x = some (.int i t)) (hd : (x == ("__debug__" : Str)) = false := by decide) : PE X (.Name x pos) (tE X cls exc W G C (.glb j)) := by
  obtain ⟨t, hm⟩ := hm
  exact pe_glbV (v := .int i) hC hg hm ⟨t, rfl⟩ (fun F => .int i) hd
end
end VL
end
section
/-! V29: {k: v}. -/
namespace VL
open PySem PySem.Spec PyProof.Rows L2
section
variable {X : Cx} {cls : Clz} {exc : List (Addr × List Str)} {W : WX} {G : List Fd} {C : List D} {e k v : Expr} {xk xv : Ex} {pos : Pos}
variable {Z : Zx} {r r' r2 : Fr} {σ σ' : L2.St} {F F' F2 H H' H2 : Hp} {fp fp' fp2 : Nat → List Addr} {s : Shared} {pins : List (Addr × Obj)}
theorem dset_one : DSet X fun d k v => storeAll d [(k, v)] :=
  ⟨fun {A E s d a k xs v Q} _ hu hk hm hq hz => by
      unfold storeAll
      simp only [List.forIn_cons, List.forIn_nil]
      refine wpAny_bind (wpAny_bind (wpAny_dictSet_heap (hsz := hz) hu hk hm fun h' a b => wpAny_pure ?_))
      exact wpAny_pure (hq h' _ a b),
    fun {A E s d key k kvs v Q} hk hm hq hz => by
      unfold storeAll
      simp only [List.forIn_cons, List.forIn_nil]
      refine wpAny_bind (wpAny_bind (wpAny_dictSet_pairs (hsz := hz) hk hm fun h' a b => wpAny_pure ?_))
      exact wpAny_pure (hq h' _ a b)⟩
theorem pe_dic1V (hu : X.A.units + 70 < cLine) (hk : PE X k (tE X cls exc W G C xk)) (hv : PE X v (tE X cls exc W G C xv)) : PE X (.Dict [some k] [v] pos) (tE X cls exc W G C (.dic (.cons xk xv .nil))) := by
  refine ⟨fun pins s σ H Q I ⟨r, F, fp, R, g⟩ => ?_⟩
  rw [evE, evP] at g
  have hf : H s.heap.objs.size = none := I.hok.fresh (Nat.le_refl _)
  have I1 : Inv X pins σ (upd H s.heap.objs.size (dco s.heap.objs.size { cls := .type "dict", data := .dict #[] })) { s with heap := s.heap.push { cls := .type "dict", data := .dict #[] } } := I.laid (t' := s.toks) (fun b u e => Heap.get?_push_of_some _ e) (Nat.le_refl _) (dco_ok (Heap.get?_push_size _ rfl))
  have hsys : (s.heap.objs.size == sysModules) = false := beq_eq_false_iff_ne.mpr (Ne.symm (Nat.ne_of_lt I.big))
  refine wpAny_Dict_any rfl rfl (by simp) (by simp) ?_
  generalize hdd : s.heap.objs.size = d at *
  generalize hoo : ({ cls := .type "dict", data := .dict #[] } : Obj) = o0 at *
  have nw := New.lst (o := dco d o0) R.same hf
  have R1 := nw.rel R
  have hd1 : upd H d (dco d o0) d = some (dco d o0) := upd_same
  have nD : ¬ OwnS r fp d := fun z => by
    obtain ⟨o, ho⟩ := OwnS.some R z
    rw [hf] at ho; cases ho
  have fD : F d = none := R.same.free hf
  refine pairTrees_cons_walk ?_
  have g1 : GdG (zx X cls exc) σ (PVl (zx X cls exc) σ) ⟨r, fp, F, H⟩ W Q ((evE G C xk r).bnd fun kv r1 => ((evE G C xv r1).bnd fun vv r2 => match takeL [kv, vv] r2 with
    | some ([kd, vd], r3) => match putKey [] kd vd with
      | some acc' => evP G C .nil acc' r3
      | none => .bad
    | _ => .bad).bnd fun kvs r1 => .ok (.own (.dct kvs)) r1) := by
    cases hh : evE G C xk r <;> (rw [hh] at g; exact g)
  refine thn (hk.run pins _ σ _ _ I1 ⟨r, F, fp, R1, GdG.bnd (b1 := ⟨r, fp, F, upd H d (dco d o0)⟩) g1 nw.ext⟩) fun u1 s1 ⟨x1, H1, I2, rx1, va, r1, F1, fp1, f1, A1, g2⟩ => ?_
  have g3 : GdG (zx X cls exc) σ (PVl (zx X cls exc) σ) ⟨r, fp, F, H⟩ W Q ((evE G C xv r1).bnd fun vv r2 => (match takeL [va, vv] r2 with
    | some ([kd, vd], r3) => match putKey [] kd vd with
      | some acc' => evP G C .nil acc' r3
      | none => .bad
    | _ => .bad).bnd fun kvs r1 => .ok (.own (.dct kvs)) r1) := by
    cases hh : evE G C xv r1 <;> (rw [hh] at g2; exact g2)
  obtain ⟨k1, k2, k3⟩ := A1.e1.out hd1 nD fD
  refine thn (hv.run pins _ σ _ _ I2 ⟨r1, F1, fp1, A1.R, GdG.bnd (b1 := ⟨r1, fp1, F1, H1⟩) g3 A1.e⟩) fun u2 s2 ⟨x2, H2, I3, rx2, vb, r2, F2, fp2, f2, A2, g4⟩ => ?_
  obtain ⟨m1, m2, m3⟩ := A2.e1.out k1 k2 k3
  refine pairTrees_nil_walk ?_
  have A4 : Aft (Z := zx X cls exc) (σ := σ) (PVls (zx X cls exc) σ) ⟨r, fp, F, H⟩ ⟨r1, fp1, F1, H1⟩ [x2] H2 [vb] r2 F2 fp2 (f2 ++ []) := ⟨A2.e, A2.e1, A2.R, ⟨f2, [], rfl, A2.p, rfl, fun _ _ z => nomatch z⟩, fun c hc => A2.f1 c (by simpa using hc)⟩
  obtain ⟨p1, p2⟩ := VRL.cons_aft A1 A4 nw.ext
  have A5 : Aft (Z := zx X cls exc) (σ := σ) (PVls (zx X cls exc) σ) ⟨r, fp, F, H⟩ ⟨r, fp, F, H⟩ [x1, x2] H2 [va, vb] r2 F2 fp2 (f1 ++ (f2 ++ [])) := ⟨A2.e, A2.e, A2.R, p1, p2⟩
  have nf : d ∉ f1 ++ (f2 ++ []) := fun z => by
    rcases List.mem_append.mp z with z | z
    · rcases A1.f1 d z with q | q
      · have q' : upd H d (dco d o0) d = none := q
        rw [hd1] at q'; cases q'
      · exact nD q
    · rcases A2.f1 d (by simpa using z) with q | q
      · have q' : H1 d = none := q
        rw [k1] at q'; cases q'
      · exact k2 q
  cases ht : takeL [va, vb] r2 with
  | none => rw [ht] at g4; exact g4.elim
  | some pr =>
    obtain ⟨ds, r3⟩ := pr
    rw [ht] at g4
    obtain ⟨F4, R4, p4, e4, s4⟩ := take_vals A5 (.refl ..) ht
    cases p4 with
    | @cons kd _ ds1 _ q1 q2 =>
      cases q2 with
      | @cons vd _ ds2 _ q3 q4 =>
        cases q4
        dsimp only at g4
        cases hp : putKey [] kd vd with
        | none => rw [hp] at g4; exact g4.elim
        | some acc =>
          rw [hp] at g4
          have g4 : GdG (zx X cls exc) σ (PVl (zx X cls exc) σ) ⟨r, fp, F, H⟩ W Q (.ok (.own (.dct acc)) r3) := g4
          unfold putKey at hp
          split at hp
          · rename_i n hn
            split at hp
            · rename_i hc
              cases hp
              have fD4 : F4 d = none := by
                cases q : F4 d with
                | none => rfl
                | some u =>
                  rcases s4.2.new d u q m3 with z | z
                  · exact (m2 z.1).elim
                  · exact (nf z).elim
              have nD4 : ¬ OwnS r3 fp2 d := fun z => m2 (s4.2.shr d z)
              refine dset_ok (cls := cls) (exc := exc) dset_one hu I3 R4.same (o := o0) (es := #[]) (ep := 0) (kvs := []) ⟨m1, by subst hoo; exact ⟨rfl, rfl, rfl⟩, by subst hoo; rfl, hsys⟩ .nil List.nodup_nil hc.2 q1 hn hc.1 q3 rx1 rx2 fun o' es' ep' s' I' hd' re' => ?_
              exact ⟨.ref d, _, I', rfl, g4 (.ref d) [d] F4 _ fp2 (Ext.other (b := ⟨r, fp, F, H⟩) e4 (.inl hf)) (R4.other nD4 fD4) ⟨d, rfl, ⟨rfl, o', es', ep', hd', re', store_nodup hn List.nodup_nil, by
                have h1 := storeD_len (k := kd) (n := n) (v := vd) []
                rw [sizeLine_eq]
                simp at h1 ⊢
                omega⟩, fun a ha => by rw [List.mem_singleton.mp ha]; exact ⟨fD4, nD4⟩⟩ fun a ha => by rw [List.mem_singleton.mp ha]; exact .inl hf⟩
            · cases hp
          · cases hp
end
end VL
end
section
/-! V30: what a handler's suite stores. -/
namespace VL
open PySem PySem.Spec PyProof.Rows L2
/-- a handler's data: the caught exception at a -/
structure Ht where
  a : Addr
  nm : Option Nat
  cs : List Nat
  cls : Value
  d : Option Addr
def HtOk (Z : Zx) (h : Ht) (r : Fr) (σ : L2.St) (F H : Hp) (fp : Nat → List Addr) (fs : List D) : Prop := Rel Z r σ F H fp ∧ (∃ c, c ∈ h.cs ∧ ExR Z c fs h.cls h.d F H) ∧ ∀ j, h.nm = some j → σ[j]? = some (some (.ref h.a))
def tXx (Z : Zx) (h : Ht) (x : Sx) : TE := fun σ H Q => ∃ r F fp fs dd, HtOk Z h r σ F H fp fs ∧ evX fs r x = some dd ∧ ∀ v F' H', New F H F' H' → Rep Z F' dd v → Q v H'
def tXs (Z : Zx) (h : Ht) (xs : Sxs) : TA := fun σ H Q => ∃ r F fp fs ds, HtOk Z h r σ F H fp fs ∧ evXs fs r xs = some ds ∧ ∀ vs F' H', New F H F' H' → RepL Z F' ds vs → Q vs H'
section
variable {X : Cx} {Z : Zx} {h : Ht} {e : Expr} {es : List Expr} {pos : Pos} {x : Sx} {xs : Sxs} {r : Fr} {σ : L2.St} {F F' F2 H H' H2 : Hp} {fp : Nat → List Addr} {fs : List D}
theorem HtOk.next (k : HtOk Z h r σ F H fp fs) (n : New F H F' H') : HtOk Z h r σ F' H' fp fs := by
  obtain ⟨R, ⟨c, hc, CA, names, h1, h2, h3, h4⟩, hn⟩ := k
  refine ⟨n.rel R, ⟨c, hc, CA, names, h1, h2, h3, ?_⟩, hn⟩
  rcases h4 with h4 | ⟨dd, vs, l, q1, q2, q3, q4⟩
  · exact .inl h4
  · exact .inr ⟨dd, vs, l, q1, n.sF _ _ q2, q3, q4.mono n.sF⟩
theorem px_cst {d : D} {k : Const} {j : Nat} (hk : cstOk d k = true) : PE X (.Constant k j pos) (tXx Z h (.cst d)) := by
  have go : ∀ {v : V}, (∀ F, Rep Z F d v) → PE X (.Constant k j pos) (tC v) → PE X (.Constant k j pos) (tXx Z h (.cst d)) := fun {v} hv p => p.cons fun σ H Q ⟨r, F, fp, fs, dd, ok, ev, q⟩ => by
    cases ev
    exact q v F H (.refl ok.1.same) (hv F)
  unfold cstOk at hk
  split at hk
  · cases of_decide_eq_true hk
    exact go (fun F => .int _) pe_int
  · cases beq_iff_eq.mp hk
    exact go (fun F => .bl _) pe_bl
  · cases of_decide_eq_true hk
    exact go (fun F => .str _) pe_str
  · exact go (fun F => .non) pe_non
  · cases hk
theorem pxs_nil : PA X [] (tXs Z h .nil) := pa_nil.cons fun σ H Q ⟨r, F, fp, fs, ds, ok, ev, q⟩ => by
  cases ev
  exact q [] F H (.refl ok.1.same) .nil
theorem pxs_cons (he : PE X e (tXx Z h x)) (hes : PA X es (tXs Z h xs)) (hs : starEach (e :: es) X.env = (false, eval e X.env) :: starEach es X.env := by rfl) : PA X (e :: es) (tXs Z h (.cons x xs)) := by
  refine (pa_cons he hes hs).cons fun σ H Q ⟨r, F, fp, fs, ds, ok, ev, q⟩ => ?_
  unfold evXs at ev
  split at ev
  · rename_i d0 ds0 h1 h2
    cases ev
    exact ⟨r, F, fp, fs, d0, ok, h1, fun v F1 H1 n1 r1 => ⟨r, F1, fp, fs, ds0, ok.next n1, h2, fun vs F2 H2 n2 r2 => q (v :: vs) F2 H2 (n1.trans n2) (.cons (r1.mono n2.sF) r2)⟩⟩
  · cases ev
theorem px_tup {k : Nat} (hes : PA X es (tXs Z h xs)) (hz : ∀ fs r ds, evXs fs r xs = some ds → ds.length ≤ 100) : PE X (.Tuple es k pos) (tXx Z h (.tup xs)) := by
  refine (pe_tupN hes).cons fun σ H Q ⟨r, F, fp, fs, dd, ok, ev, q⟩ => ?_
  unfold evX at ev
  obtain ⟨ds, h1, h2⟩ := Option.map_eq_some_iff.mp ev
  subst h2
  refine ⟨r, F, fp, fs, ds, ok, h1, fun vs F1 H1 n1 r1 => ⟨by rw [← r1.length, sizeLine_eq]; have := hz _ _ _ h1; omega, fun p o hp hd => ?_⟩⟩
  have n2 := New.tup (o := .frz o (.tup vs)) n1.sub hp
  exact q _ _ _ (n1.trans n2) (.tup (.of upd_same hd) (r1.mono n2.sF))
theorem px_lst (hes : PA X es (tXs Z h xs)) (hz : ∀ fs r ds, evXs fs r xs = some ds → ds.length ≤ 100) : PE X (.List es pos) (tXx Z h (.lst xs)) := by
  refine (pe_lst hes).cons fun σ H Q ⟨r, F, fp, fs, dd, ok, ev, q⟩ => ?_
  unfold evX at ev
  obtain ⟨ds, h1, h2⟩ := Option.map_eq_some_iff.mp ev
  subst h2
  refine ⟨r, F, fp, fs, ds, ok, h1, fun vs F1 H1 n1 r1 => ⟨by rw [← r1.length, sizeLine_eq]; have := hz _ _ _ h1; omega, fun p hp => ?_⟩⟩
  have n2 := New.tup (o := .lst vs) n1.sub hp
  exact q _ _ _ (n1.trans n2) (.lst upd_same (r1.mono n2.sF))
/-- e.f -/
theorem px_fld {n : Str} {k : Nat} {a : Addr} {oe : Obj} {cls : Value} {d : Option Addr} {pn : List (Addr × Obj)} {j : Nat} {cs : List Nat} {y : Str} {p0 : Pos} (hn : Z.K = X.K) (T : ∀ c ∈ cs, ∀ CA names, Z.exc[c]? = some (CA, names) → XfC X.K CA ∧ PySem.W.findIn X.K (.ref CA) n = some none ∧ names[k]? = some n)
    (hz : L2.Zc cls d oe) (hf : ∃ vs, oe.data = .fields vs) (he : PE (X.suite a ((a, oe) :: pn)) (.Name y p0) (tVar j)) (hb : attributeBase (.Name y p0) n X.env (eval (.Name y p0) X.env) = eval (.Name y p0) X.env := by rfl) :
    PE (X.suite a ((a, oe) :: pn)) (.Attribute (.Name y p0) n pos) (tXx Z ⟨a, some j, cs, cls, d⟩ (.fld k)) := by
  refine ⟨fun pins s σ H Q I ⟨r, F, fp, fs, dd, ok, ev, q⟩ => ?_⟩
  obtain ⟨R, ⟨c, hc, CA, names, h1, h2, h3, h4⟩, hnm⟩ := ok
  obtain ⟨t1, t2, t3⟩ := T c hc CA names h1
  have hk : k < names.length := (List.getElem?_eq_some_iff.mp t3).1
  rcases h4 with h4 | ⟨dx, vs, l, q1, q2, q3, q4⟩
  · rw [h4.1] at hk; cases hk
  · have ev' : fs[k]? = some dd := ev
    obtain ⟨v, e1, e2⟩ := q4.get ev'
    exact (pe_xf t1 t2 hz hf he hb).run pins s σ H Q I ⟨.ref a, hnm j rfl, rfl, h2, dx, l, v, q1, R.same _ _ q2, q3 k n v t3 e1, q v F H (.refl R.same) e2⟩
end
end VL
end
section
/-! V31: new objects, methods, properties. -/
namespace VL
open PySem PySem.Spec PyProof.Rows L2
section
variable {X : Cx} {cls : Clz} {exc : List (Addr × List Str)} {W : WX} {G : List Fd} {C : List D} {a e o : Expr} {es : List Expr} {xs : Ar} {xa : Ex} {pos p apos : Pos} {x m : Str}
variable {Z : Zx} {r r' r2 : Fr} {σ σ' : L2.St} {F F' F2 H H' H2 : Hp} {fp fp' fp2 : Nat → List Addr} {s : Shared} {pins : List (Addr × Obj)}
/-- frozen things as a call's arguments -/
theorem rel_args {H : Hp} (e : Same F H) : ∀ {ds : List D} {vs : List V}, RepL Z F ds vs → ∃ fpc, Rel Z.un (entryF [] ds) (vs.map some) F H fpc ∧ ∀ a, ¬ OwnS (entryF [] ds) fpc a
  | _, _, .nil => ⟨fun _ => [], .nil e, fun a ⟨i, d, h, _⟩ => by simp [entryF] at h⟩
  | d :: ds, v :: vs, .cons h1 h2 => by
    obtain ⟨fpc, R, n⟩ := rel_args e h2
    exact ⟨consFp [] fpc, R.consFro h1, fun a z => by
      rcases OwnS.cons.mp z with ⟨⟨d', q⟩, _⟩ | z
      · cases q
      · exact n a z⟩
/-- C(..), a new object -/
theorem call_new {b b1 : Bs} {ys : List V} {vs : List Vl} {r1 : Fr} {fr : List Addr} {fd : Fd} {c : Nat} {ci : Zc} {Q : VK} (hl : fd.lent = [true]) (hc : Z.cls.l[c]? = some ci) (A1 : Aft (Z := Z) (σ := σ) (PVls Z σ) b b1 ys H vs r1 F fp fr) (e : Ext b.r b.fp b.F b.H b1.r b1.fp b1.F b1.H)
    (g : GdG Z σ (PVl Z σ) b W Q (orBad (takeL vs r1) fun p => if p.1.length + 1 = fd.np then match fd.sem (.obj c [] :: p.1) with
      | .ret _ .non [d] => .ok (.own d) p.2
      | .exc c fs _ => .exc c fs p.2
      | _ => .bad
    else .bad)) (x dx : Addr) (hx : H x = none) (hdx : H dx = none) (hne : dx ≠ x) :
    spV Z.un fd (.ref x :: ys) (upd (upd H dx (.own x)) x (.ins ci.C dx [])) (fun v H2 => v = .non ∧ Q (.ref x) H2) fun cls d H' => W cls d σ H' := by
  obtain ⟨⟨ds, r2⟩, ht, g⟩ := g.orBad
  dsimp only at g
  split at g
  · rename_i hnp
    obtain ⟨F2, R2, p2, e2, s2, _⟩ := take_vals A1 e ht
    have hx2 : (upd H dx (.own x)) x = none := by rw [upd_ne (Ne.symm hne)]; exact hx
    have fdx : F2 dx = none := R2.same.free hdx
    have fx : F2 x = none := R2.same.free hx
    have n1 : New F2 H F2 (upd H dx (.own x)) := New.lst R2.same hdx
    have n2 : New F2 (upd H dx (.own x)) F2 (upd (upd H dx (.own x)) x (.ins ci.C dx [])) := New.lst n1.sub hx2
    have nn := n1.trans n2
    have R3 := nn.rel R2
    have e3 : Ext b.r b.fp b.F b.H r2 fp F2 (upd (upd H dx (.own x)) x (.ins ci.C dx [])) := e2.trans nn.ext
    obtain ⟨fpc, Ra, na⟩ := rel_args (H := upd (upd H dx (.own x)) x (.ins ci.C dx [])) R3.same p2
    have ho : OwnAt Z F2 (upd (upd H dx (.own x)) x (.ins ci.C dx [])) x (.obj c []) [x, dx] := by
      refine ⟨dx, [], rfl, ⟨_, by rw [upd_ne hne, upd_same]⟩, ⟨ci, hc, Nat.zero_le _, hne, ?_⟩, .nil⟩
      split
      · exact ⟨[], .inl ⟨upd_same, rfl⟩, fun k v h => by simp at h⟩
      · refine ⟨?_, by rw [upd_ne hne, upd_same]⟩
        rw [List.zip_nil_right]
        exact upd_same
    have Re := Ra.consOwn (f := [x, dx]) ho fun a ha => ⟨by
      rcases List.mem_cons.mp ha with z | z
      · rw [z]; exact fx
      · rw [List.mem_singleton.mp z]; exact fdx, na a⟩
    have en : entryF [true] (.obj c [] :: ds) = some (true, .obj c []) :: entryF [] ds := rfl
    have own0 : ∀ a, OwnS (entryF [true] (.obj c [] :: ds)) (consFp [x, dx] fpc) a → H a = none := fun a z => by
      rw [en] at z
      rcases OwnS.cons.mp z with ⟨_, z⟩ | z
      · rcases List.mem_cons.mp z with z | z
        · rw [z]; exact hx
        · rw [List.mem_singleton.mp z]; exact hdx
      · exact (na a z).elim
    have nsl : ∀ a, H a = none → ¬ OwnS r2 fp a := fun a z q => by
      obtain ⟨o, ho⟩ := OwnS.some R2 q
      rw [z] at ho; cases ho
    refine ⟨by rw [List.length_cons, ← p2.length]; exact hnp, .obj c [] :: ds, F2, consFp [x, dx] fpc, by rw [List.length_cons]; exact hnp, by rw [hl, en]; exact Re, ?_⟩
    rw [hl]
    have fin : ∀ {re' : Fr} {F' H' : Hp} {fpe' : Nat → List Addr}, Ext (entryF [true] (.obj c [] :: ds)) (consFp [x, dx] fpc) F2 (upd (upd H dx (.own x)) x (.ins ci.C dx [])) re' fpe' F' H' → Same F' H' → Rel Z r2 σ F' H' fp ∧ Ext b.r b.fp b.F b.H r2 fp F' H' := fun {re' F' H' fpe'} x1 s1 => by
      refine ⟨R3.around x1 s1 fun a z => nsl a (own0 a z), e3.sF.trans x1.sF, fun a o h1 h2 => ?_, fun a o h1 h2 => ?_, e3.shr⟩
      · cases q : F2 a with
        | some u => exact e3.new a u q h2
        | none =>
          rcases x1.new a o h1 q with z | z
          · exact e3.back (.inl z)
          · exact e2.back (.inl (own0 a z))
      · refine x1.keep a o (e3.keep a o h1 h2) fun z => ?_
        have h5 := e2.keep a o h1 h2
        have h6 := own0 a z
        rw [h5] at h6; cases h6
    cases hs : fd.sem (.obj c [] :: ds) with
    | bad => rw [hs] at g; exact g.elim
    | exc c2 fs outs =>
      rw [hs] at g
      intro cl d F' H' fpe' x1 s1 _ ex
      obtain ⟨R4, e4⟩ := fin x1 s1
      exact g cl d F' H' fp e4 R4 (ExR.re (Z := Z.un) (ps := Z.cls.pins) ex)
    | ret o d outs =>
      rw [hs] at g
      cases d with
      | non =>
        match outs, g with
        | [d], g =>
          intro v fr' F' H' fpe' x1 s1 hh rv hf
          obtain ⟨R4, e4⟩ := fin x1 s1
          have hv : v = .non := by
            unfold RtV at rv
            cases o with
            | true =>
              rw [if_pos rfl] at rv
              obtain ⟨_, _, q, _⟩ := rv
              exact q.elim
            | false =>
              rw [if_neg (by decide)] at rv
              cases rv.2
              rfl
          refine ⟨hv, ?_⟩
          obtain ⟨p', h1, h2, h3, _⟩ := hh 0 d rfl
          have hp' : p' = x := by
            have : (some (some (V.ref x))) = some (some (V.ref p')) := h1
            cases this; rfl
          subst hp'
          have own2 : ∀ a ∈ fpe' 0, H a = none := fun a ha => by
            rcases x1.shr a ⟨0, d, rfl, ha⟩ with z | z
            · by_cases q1 : a = p'
              · rw [q1]; exact hx
              · by_cases q2 : a = dx
                · rw [q2]; exact hdx
                · have z' : upd (upd H dx (.own p')) p' (.ins ci.C dx []) a = none := z
                  rw [upd_ne q1, upd_ne q2] at z'
                  exact z'
            · exact own0 a z
          exact g (.ref p') (fpe' 0) F' H' fp e4 R4 ⟨p', rfl, OwnAt.re (Z := Z.un) (ps := Z.cls.pins) h2, fun a ha => ⟨h3 a ha, nsl a (own2 a ha)⟩⟩ fun a ha => e2.back (.inl (own2 a ha))
        | [], g => exact g.elim
        | _ :: _ :: _, g => exact g.elim
      | _ => exact g.elim
  · exact g.elim
/-- a class of the program that makes objects: its __init__ by its promise -/
structure MakC (P : Program) (w : World) (K : PySem.W.Frag) (mg : Str → Option Value) (base : Heap) (cls : List Zc) (exc : List (Addr × List Str)) (x : Str) (c k : Nat) (fn : Fd) : Prop where
  ex : ∃ (ci : Zc) (f : Addr) (fd : FuncData) (ps : List Str), cls[c]? = some ci ∧ Mk K ci.C f ∧ FnOk P w K mg base (L2N.CX P w) k f fd ps (spV ⟨P, w, K, ⟨cls, [], []⟩, exc⟩ fn) ∧ Binds K fd ps [] ∧ mg x = some (.ref ci.C)
theorem run_makeS {k : Nat} {f C : Addr} {fd : FuncData} {ps : List Str} {sp : Sp} {Q : VK} {E : L2.St → XK} {us : List Value} {vs : List V} (M : Mk X.K C f) (F : FnOk X.prog X.w X.K X.mg X.base (L2N.CX X.prog X.w) k f fd ps sp) (hr : Room (k + 1) X.A) (hb : Binds X.K fd ps [])
    (hx : PassesAt (L2N.CX X.prog X.w) X σ (E σ)) (I : Inv X pins σ H s) (r : Vals vs us)
    (h : ∀ x dx, H x = none → H dx = none → dx ≠ x → sp (.ref x :: vs) (upd (upd H dx (.own x)) x (.ins C dx [])) (fun v H2 => v = .non ∧ Q (.ref x) H2) (E σ)) :
    wpAny (model X.prog X.w) X.A (call (.ref C) us) (EP X pins σ Q) X.xe s := by
  have hq := h (s.heap.objs.size + 1) s.heap.objs.size (I.hok.fresh (Nat.le_succ _)) (I.hok.fresh (Nat.le_refl _)) (Nat.ne_of_lt (Nat.lt_succ_self _))
  have I2 := Inv.made (C := C) I
  have r2 : Vals (V.ref (s.heap.objs.size + 1) :: vs) (Value.ref (s.heap.objs.size + 1) :: us) := .cons rfl r
  have hl : (Value.ref (s.heap.objs.size + 1) :: us).length = ps.length := by
    have e := r2.length
    rw [F.len _ _ _ _ hq] at e
    exact e.symm
  have hb2 := hb { s with heap := _ } (Value.ref (s.heap.objs.size + 1) :: us) I2.kIn (by rw [List.append_nil]; exact hl)
  rw [List.append_nil] at hb2
  refine wpAny_call (make_map (f := f) I.kIn M.makes M.init (beq_iff_eq.mp M.fn) (codeAny_mono (F.run _ X.stack _ _ ⟨Value.ref (s.heap.objs.size + 1) :: us, []⟩ (Value.ref (s.heap.objs.size + 1) :: us) _ _ (E σ) (hr.make C us [])
    (I2.env0.make C us []) hb2 r2 hq) fun r s' hq' => ?_))
  cases r with
  | error e => exact hx pins _ _ e s' I2 hq'
  | ok fl =>
    cases fl with
    | ret u =>
      obtain ⟨v, H', I3, rv, ev, q3⟩ := I2.after hq'
      subst ev
      exact ⟨rv, ⟨V.ref (s.heap.objs.size + 1), H', I3, rfl, q3⟩⟩
    | next => exact False.elim hq'
    | brk => exact False.elim hq'
    | cont => exact False.elim hq'
theorem pe_newV {c j k n : Nat} {fn : Fd} (M : MakC X.prog X.w X.K X.mg X.base cls.l exc x c k fn) (hr : Room n X.A) (hkn : k + 1 ≤ n) (hg : Gl X x) (tk : L2N.Takes X W) (hG : G[j]? = some fn) (hl : fn.lent = [true]) (ha : PA X (e :: es) (tA X cls exc W G C xs))
    (hdb : (x == ("__debug__" : Str)) = false := by decide) (he : starEach (e :: es) X.env = (false, eval e X.env) :: starEach es X.env := by rfl) (hpl : (backTo pos (starEach es X.env)).any (·.1) = false := by rfl) (hx : cls.xl = [] := by rfl) :
    PE X (.Call (.Name x p) (e :: es) [] pos) (tE X cls exc W G C (.new c j xs)) := by
  obtain ⟨cl, cp, cx⟩ := cls
  obtain rfl : cx = [] := hx
  obtain ⟨ci, f, fd, ps, h1, h2, h3, h4, h5⟩ := M.ex
  refine ⟨fun pins s σ H Q I ⟨r, F, fp, R, g⟩ => ?_⟩
  rw [evE] at g
  obtain ⟨r0, F0, fp0, R0, g0⟩ := stepA R (.refl ..) g
  refine wpAny_Call_Name_kw (ld_glob I hg h5 ?_ hdb)
  refine PySem.W.callWith_K (h₀ := X.base) I.ok.mod.kin h2.kp (thn (ha.run pos pins s σ H _ I ⟨r0, F0, fp0, R0, g0⟩) fun us s1 ⟨ys, H1, I1, rv, vs, r1, F1, fp1, f1, A1, g1⟩ => ⟨I1.kIn, ?_⟩) he hpl
  obtain ⟨fd', hfd, g2⟩ := g1.orBad
  rw [hG] at hfd
  cases hfd
  exact run_makeS (E := WE W) h2 h3 (hr.mono hkn) h4 (L2N.passAt tk σ) I1 rv (call_new (Z := zx X ⟨cl, cp, []⟩ exc) hl h1 A1 (.refl ..) g2)
end
end VL
end
section
/-! V32: methods, properties. -/
namespace VL
open PySem PySem.Spec PyProof.Rows L2
section
variable {X : Cx} {cls : Clz} {exc : List (Addr × List Str)} {W : WX} {G : List Fd} {C : List D} {a e o : Expr} {es : List Expr} {xs : Ar} {xa : Ex} {pos p apos : Pos} {x m f : Str}
variable {Z : Zx} {r r' r2 : Fr} {σ σ' : L2.St} {F F' F2 H H' H2 : Hp} {fp fp' fp2 : Nat → List Addr} {s : Shared} {pins : List (Addr × Obj)}
/-- a method of a class, by its promise -/
structure MetC (P : Program) (w : World) (K : PySem.W.Frag) (mg : Str → Option Value) (base : Heap) (cls : List Zc) (exc : List (Addr × List Str)) (c : Nat) (m : Str) (k : Nat) (fn : Fd) : Prop where
  ex : ∃ (ci : Zc) (g : Addr) (fd : FuncData) (ps : List Str), cls[c]? = some ci ∧ ClsOk K ci ∧ Meth K ci.C m g ∧ (ci.names.contains m = false) ∧ FnOk P w K mg base (L2N.CX P w) k g fd ps (spV ⟨P, w, K, ⟨cls, [], []⟩, exc⟩ fn) ∧ Binds K fd ps []
theorem zip_none {m : Str} : ∀ {ns : List Str} {vs : List V}, ns.contains m = false → (ns.zip vs).lookup m = none
  | [], _, _ => by simp
  | _ :: _, [], _ => by simp
  | n :: ns, v :: vs, h => by
    rw [List.contains_cons, Bool.or_eq_false_iff] at h
    show List.lookup m ((n, v) :: ns.zip vs) = none
    unfold List.lookup
    rw [h.1]
    exact zip_none h.2
theorem get_met {ci : Zc} {c : Nat} {g : Addr} {fs : List D} {x : V} {pl : PySem.Sem Bool} {Q : Value × List Value → Shared → Prop} (hc : cls.l[c]? = some ci) (ok : ClsOk X.K ci) (hm : Meth X.K ci.C m g) (hn : ci.names.contains m = false) (I : Inv X pins σ H s)
    (vx : View (zx X cls exc) F H x (.obj c fs)) (q : ∀ a, x = .ref a → Q (.ref g, [.ref a]) s) : ∃ a, x = .ref a ∧ wpAny (model X.prog X.w) X.A (getMethod (.ref a) m pl) Q X.xe s := by
  obtain ⟨a, dx, vs, rfl, ho, hr⟩ := vx
  obtain ⟨ci', h1, h2, h3, h4⟩ := ho
  have h1' : cls.l[c]? = some ci' := h1
  rw [hc] at h1'
  cases h1'
  refine ⟨a, rfl, ?_⟩
  split at h4
  · rename_i hs
    obtain ⟨ws, h4, _⟩ := h4
    exact SlX.getmethsl_ok I h4 (ok.sl hs).1 hm (q a rfl)
  · rename_i hs
    exact getmeth_ok I h4.1 (ok.pl (by simpa using hs)).1 hm (zip_none hn) (q a rfl)
theorem pe_metV {pl : PySem.Sem Bool} {c j k n : Nat} {fn : Fd} (M : MetC X.prog X.w X.K X.mg X.base cls.l exc c m k fn) (hr : Room n X.A) (hkn : k ≤ n) (tk : L2N.Takes X W) (hG : G[j]? = some fn) (hl : fn.lent = [] ∨ (fn.lent = [true] ∧ 0 < fn.np))
    (ho : PE X o (tE X cls exc W G C xa)) (ha : PA X (e :: es) (tA X cls exc W G C xs)) (he : starEach (e :: es) X.env = (false, eval e X.env) :: starEach es X.env := by rfl) (hpl : (backTo pos (starEach es X.env)).any (·.1) = false := by rfl)
    (ht : eval (.Call (.Attribute o m apos) (e :: es) [] pos) X.env = (do
      let ov ← eval o X.env
      standAt apos.atName
      let (f, first) ← holding [ov] (getMethod ov m pl)
      callWith pos f first (backTo pos (starEach (e :: es) X.env)) (backToKw pos (keywordEach [] X.env))) := by rfl) (hx : cls.xl = [] := by rfl) :
    PE X (.Call (.Attribute o m apos) (e :: es) [] pos) (tE X cls exc W G C (.meth c j xa xs)) := by
  obtain ⟨cl, cp, cx⟩ := cls
  obtain rfl : cx = [] := hx
  obtain ⟨ci, g, fd, ps, h1, h2, h3, h4, h5, h6⟩ := M.ex
  refine ⟨fun pins s σ H Q I ⟨r, F, fp, R, gg⟩ => ?_⟩
  rw [evE] at gg
  refine PySem.W.methodCall_KW (pl := pl) (thn (ho.run pins s σ H _ I (step R (.refl ..) gg)) fun u s1 ⟨x, H1, I1, rx, va, r1, F1, fp1, f1, A1, g1⟩ => ?_) ht
  split at g1
  · rename_i d fs hd
    split at g1
    · rename_i hcd
      subst hcd
      obtain ⟨aa, hx, w⟩ := get_met (Q := fun q s' => wpAny (model X.prog X.w) X.A (callWith pos q.1 q.2 (backTo pos (starEach (e :: es) X.env)) (backToKw pos (keywordEach [] X.env))) (EP X pins σ Q) X.xe s') (pl := pl) h1 h2 h3 h4 I1 (A1.p.view A1.R hd) fun aa hx => by
        subst hx
        refine PySem.W.callWith_K (first := [.ref aa]) (h₀ := X.base) I.ok.mod.kin h3.kp (thn (ha.run pos pins s1 σ H1 _ I1 (stepA A1.R A1.e g1)) fun us s2 ⟨ws, H2, I2, rv, vs, r3, F3, fp3, f3, A3, g3⟩ => ⟨I2.kIn, ?_⟩) he hpl
        obtain ⟨fd', hfd, g4⟩ := g3.orBad
        rw [hG] at hfd
        cases hfd
        obtain ⟨p1, p2⟩ := VRL.cons_aft A1 A3 (.refl ..)
        have A5 : Aft (Z := zx X ⟨cl, cp, []⟩ exc) (σ := σ) (PVls (zx X ⟨cl, cp, []⟩ exc) σ) ⟨r, fp, F, H⟩ ⟨r, fp, F, H⟩ (.ref aa :: ws) H2 (va :: vs) r3 F3 fp3 (f1 ++ f3) := ⟨A3.e, A3.e, A3.R, p1, p2⟩
        refine run_fnS (E := WE W) (us := .ref aa :: us) (vs := .ref aa :: ws) h5 (hr.mono hkn) h6 (L2N.passAt tk σ) I2 (.cons rfl rv) ?_
        rcases hl with hl | ⟨hl, h0⟩
        · exact call_none hl A5 (.refl ..) g4
        · exact call_one hl h0 A5 (.refl ..) g4
      subst hx
      obtain rfl : u = Value.ref aa := rx
      exact w
    · exact g1.elim
  · exact g1.elim
theorem pe_met0V {pl : PySem.Sem Bool} {c j k n : Nat} {fn : Fd} (M : MetC X.prog X.w X.K X.mg X.base cls.l exc c m k fn) (hr : Room n X.A) (hkn : k ≤ n) (tk : L2N.Takes X W) (hG : G[j]? = some fn) (hl : fn.lent = [] ∨ (fn.lent = [true] ∧ 0 < fn.np))
    (ho : PE X o (tE X cls exc W G C xa))
    (ht : eval (.Call (.Attribute o m apos) [] [] pos) X.env = (do
      let ov ← eval o X.env
      standAt apos.atName
      let (f, first) ← holding [ov] (getMethod ov m pl)
      callWith pos f first (backTo pos (starEach [] X.env)) (backToKw pos (keywordEach [] X.env))) := by rfl) (hx : cls.xl = [] := by rfl) :
    PE X (.Call (.Attribute o m apos) [] [] pos) (tE X cls exc W G C (.meth c j xa .nil)) := by
  obtain ⟨cl, cp, cx⟩ := cls
  obtain rfl : cx = [] := hx
  obtain ⟨ci, g, fd, ps, h1, h2, h3, h4, h5, h6⟩ := M.ex
  refine ⟨fun pins s σ H Q I ⟨r, F, fp, R, gg⟩ => ?_⟩
  rw [evE] at gg
  refine PySem.W.methodCall_KW (pl := pl) (thn (ho.run pins s σ H _ I (step R (.refl ..) gg)) fun u s1 ⟨x, H1, I1, rx, va, r1, F1, fp1, f1, A1, g1⟩ => ?_) ht
  split at g1
  · rename_i d fs hd
    split at g1
    · rename_i hcd
      subst hcd
      rw [evA] at g1
      obtain ⟨aa, hx, w⟩ := get_met (Q := fun q s' => wpAny (model X.prog X.w) X.A (callWith pos q.1 q.2 (backTo pos (starEach [] X.env)) (backToKw pos (keywordEach [] X.env))) (EP X pins σ Q) X.xe s') (pl := pl) h1 h2 h3 h4 I1 (A1.p.view A1.R hd) fun aa hx => by
        subst hx
        obtain ⟨fd', hfd, g4⟩ := GdG.orBad g1
        rw [hG] at hfd
        cases hfd
        have A5 : Aft (Z := zx X ⟨cl, cp, []⟩ exc) (σ := σ) (PVls (zx X ⟨cl, cp, []⟩ exc) σ) ⟨r, fp, F, H⟩ ⟨r, fp, F, H⟩ [.ref aa] H1 [va] r1 F1 fp1 (f1 ++ []) := ⟨A1.e, A1.e, A1.R, ⟨f1, [], rfl, A1.p, rfl, fun _ _ z => nomatch z⟩, fun a ha => A1.f1 a (by simpa using ha)⟩
        refine PySem.W.callWith_K0 (first := [.ref aa]) I1.kIn h3.kp (run_fnS (E := WE W) (us := [.ref aa]) (vs := [.ref aa]) h5 (hr.mono hkn) h6 (L2N.passAt tk σ) I1 (.cons rfl .nil) ?_)
        rcases hl with hl | ⟨hl, h0⟩
        · exact call_none hl A5 (.refl ..) g4
        · exact call_one hl h0 A5 (.refl ..) g4
      subst hx
      obtain rfl : u = Value.ref aa := rx
      exact w
    · exact g1.elim
  · exact g1.elim
/-- a property of a class, by its getter's promise -/
structure PrpC (P : Program) (w : World) (K : PySem.W.Frag) (mg : Str → Option Value) (base : Heap) (cls : List Zc) (exc : List (Addr × List Str)) (c : Nat) (f : Str) (k : Nat) (fn : Fd) : Prop where
  ex : ∃ (ci : Zc) (p g : Addr) (fd : FuncData) (ps : List Str), cls[c]? = some ci ∧ ClsOk K ci ∧ PropOf K ci.C f p g ∧ FnOk P w K mg base (L2N.CX P w) k g fd ps (spV ⟨P, w, K, ⟨cls, [], []⟩, exc⟩ fn) ∧ Binds K fd ps []
theorem GdG.ofCalm {α β : Type} {P : PrG α β} {b : Bs} {W : WX} {Q : β → Hp → Prop} {m : Res α} (g : GdG Z σ P b W Q m.calm) : GdG Z σ P b (fun _ _ _ _ => False) Q m := by
  cases m with
  | ok x r => exact g
  | exc c fs r => exact g.elim
  | bad => exact g
theorem getprop_at {k : Nat} {Ca aa pp gg : Addr} {fd : FuncData} {ps : List Str} {sp : Sp} {Q : VK} {b : Bool} {E' : Value → Shared → Prop} {ox od : Obj} (I : Inv X pins σ H s) (J : PySem.W.InstAt s.heap aa ox Ca (some od)) (hpg : PySem.W.plainGet X.K Ca f = true) (hc : (PySem.W.clsIn X.K Ca).isSome = true) (hp : PropOf X.K Ca f pp gg)
    (F : FnOk X.prog X.w X.K X.mg X.base (L2N.CX X.prog X.w) k gg fd ps sp) (hr : Room (k + 1) X.A) (hb : Binds X.K fd ps []) (h : sp [.ref aa] H Q (fun _ _ _ => False)) :
    wpAny (model X.prog X.w) X.A (getAttr (.ref aa) f b) (EP X pins σ Q) E' s := by
  obtain ⟨rest, hrec⟩ := hp.rec_
  have I1 := I.tok (s.toks + 1)
  have hl : ([Value.ref aa] ++ []).length = ps.length := by
    rw [← F.len _ _ _ _ h]
    rfl
  have hb2 := hb { s with toks := s.toks + 1 } [.ref aa] I1.kIn hl
  refine PySem.W.get_bind I.kIn J (PySem.W.plainGet_of hpg).1 (PySem.W.findObj_data hc hp.at_ hp.get hp.tak) (PySem.W.plainGet_of hpg).2 (wpAny_call (PySem.W.prop_get (s := { s with toks := s.toks + 1 }) I.kIn hrec ?_))
  refine codeAny_mono (F.run X.A.in1 X.stack { s with toks := s.toks + 1 } H ⟨[.ref aa], []⟩ [.ref aa] [.ref aa] Q _ hr.in1 I1.env0.in1 hb2 (.cons rfl .nil) h) fun r s' hq => ?_
  cases r with
  | error er => obtain ⟨_, _, _, _, _, _, _, _, _, _, _, _, z⟩ := hq; exact z.elim
  | ok fl =>
    cases fl with
    | ret u =>
      obtain ⟨v, H', I3, rv, q3⟩ := I1.after hq
      exact wpAny_of_eq (PySem.W.handedOut_of (handed_of rv)) ⟨v, H', I3, rv, q3⟩
    | next => exact False.elim hq
    | brk => exact False.elim hq
    | cont => exact False.elim hq
theorem pe_prpV {c j k n : Nat} {fn : Fd} (M : PrpC X.prog X.w X.K X.mg X.base cls.l exc c f k fn) (hr : Room n X.A) (hkn : k + 1 ≤ n) (hG : G[j]? = some fn) (hl : fn.lent = [] ∨ (fn.lent = [true] ∧ 0 < fn.np))
    (ho : PE X o (tE X cls exc W G C xa)) (hb : attributeBase o f X.env (eval o X.env) = eval o X.env := by rfl) (hx : cls.xl = [] := by rfl) : PE X (.Attribute o f pos) (tE X cls exc W G C (.prop c j xa)) := by
  obtain ⟨cl, cp, cx⟩ := cls
  obtain rfl : cx = [] := hx
  obtain ⟨ci, pp, g, fd, ps, h1, h2, h3, h5, h6⟩ := M.ex
  refine ⟨fun pins s σ H Q I ⟨r, F, fp, R, gg⟩ => ?_⟩
  rw [evE] at gg
  refine attr_of hb (thn (ho.run pins s σ H _ I (step R (.refl ..) gg)) fun u s1 ⟨x, H1, I1, rx, va, r1, F1, fp1, f1, A1, g1⟩ => ?_)
  split at g1
  · rename_i d fs hd
    split at g1
    · rename_i hcd
      subst hcd
      obtain ⟨aa, dx, vs, rfl, hoa, hrl⟩ := A1.p.view A1.R hd
      obtain rfl : u = Value.ref aa := rx
      have g2 := GdG.ofCalm g1
      obtain ⟨fd', hfd, g4⟩ := g2.orBad
      rw [hG] at hfd
      cases hfd
      have A5 : Aft (Z := zx X ⟨cl, cp, []⟩ exc) (σ := σ) (PVls (zx X ⟨cl, cp, []⟩ exc) σ) ⟨r, fp, F, H⟩ ⟨r, fp, F, H⟩ [.ref aa] H1 [va] r1 F1 fp1 (f1 ++ []) := ⟨A1.e, A1.e, A1.R, ⟨f1, [], rfl, A1.p, rfl, fun _ _ z => nomatch z⟩, fun a ha => A1.f1 a (by simpa using ha)⟩
      have sp : spV (zx X ⟨cl, cp, []⟩ exc).un fn [.ref aa] H1 Q (fun _ _ _ => False) := by
        rcases hl with hl | ⟨hl, h0⟩
        · exact call_none (W := fun _ _ _ _ => False) hl A5 (.refl ..) g4
        · exact call_one (W := fun _ _ _ _ => False) hl h0 A5 (.refl ..) g4
      obtain ⟨ci', q1, q2, q3, q4⟩ := hoa
      have q1' : cl[c]? = some ci' := q1
      rw [h1] at q1'
      cases q1'
      split at q4
      · rename_i hs
        obtain ⟨k1, _⟩ := h2.sl hs
        obtain ⟨ws, q4, _⟩ := q4
        obtain ⟨sl, od, _, J, _⟩ := SlX.slt_inst I1 q4
        exact getprop_at I1 J (k1.get f) k1.ic h3 h5 (hr.mono hkn) h6 sp
      · rename_i hs
        obtain ⟨k1, _⟩ := h2.pl (by simpa using hs)
        obtain ⟨mA, O, _, _, _, _⟩ := ins_get I1.hok q4.1
        obtain ⟨od, J, _⟩ := O.look
        have hc : (PySem.W.clsIn X.K ci.C).isSome = true := by
          obtain ⟨cd, hc, _⟩ := PySem.W.any_some k1.hd
          rw [hc]
          rfl
        exact getprop_at I1 J (k1.get f) hc h3 h5 (hr.mono hkn) h6 sp
    · exact g1.elim
  · exact g1.elim
end
end VL
end
section
/-! V33: try. -/
namespace VL
open PySem PySem.Spec PyProof.Rows L2
section
variable {X : Cx} {cls : Clz} {exc : List (Addr × List Str)} {W : WX} {G : List Fd} {C : List D} {a e o : Expr} {es : List Expr} {xs : Ar} {xa : Ex} {pos p apos : Pos} {x m f : Str}
variable {Z : Zx} {r r' r2 : Fr} {σ σ' : L2.St} {F F' F2 H H' H2 : Hp} {fp fp' fp2 : Nat → List Addr} {s : Shared} {pins : List (Addr × Obj)}
/-- a slot of which nothing is known may hold anything -/
theorem Rel.junk {j : Nat} {v : Option V} (R : Rel Z r σ F H fp) (h : ∀ b d, r[j]? ≠ some (some (b, d))) (np : NoPin Z.cls j) : Rel Z r (σ.set j v) F H fp := by
  refine ⟨R.pin.set np, R.same, by rw [List.length_set]; exact R.len, fun i d q => ?_, fun i d q => ?_, R.dis⟩
  · obtain ⟨w, h1, h2⟩ := R.fro i d q
    exact ⟨w, by rw [List.getElem?_set_ne fun z => h false d (by rw [z]; exact q)]; exact h1, h2⟩
  · obtain ⟨w, h1, h2⟩ := R.own i d q
    exact ⟨w, by rw [List.getElem?_set_ne fun z => h true d (by rw [z]; exact q)]; exact h1, h2⟩
theorem none_set {j : Nat} (b : Bool) (d : D) : (r.set j none)[j]? ≠ some (some (b, d)) := fun h => by
  by_cases hl : j < r.length
  · rw [List.getElem?_set_self hl] at h; cases h
  · rw [List.getElem?_eq_none (by rw [List.length_set]; omega)] at h; cases h
theorem own_off {n : Option Nat} {a : Addr} (h : OwnS (offN n r) fp a) : OwnS r fp a := by
  cases n with
  | none => exact h
  | some j => exact OwnS.set_sub (fun _ q => by cases q) h
theorem Rel.off {n : Option Nat} (R : Rel Z r σ F H fp) (a : Addr) (np : ∀ j, n = some j → NoPin Z.cls j) : Rel Z (offN n r) (setN σ a n) F H fp := by
  cases n with
  | none => exact R
  | some j => exact (R.drop j).junk none_set (np j rfl)
/-- the classes that a name catches -/
structure CatC (K : PySem.W.Frag) (mg : Str → Option Value) (exc : List (Addr × List Str)) (x : Str) (cs : List Nat) : Prop where
  ex : ∃ (CA : Addr), mg x = some (.ref CA) ∧ ∀ c CB names, exc[c]? = some (CB, names) → PySem.W.exmOne K (.ref CB) (.ref CA) = some (cs.contains c)
end
end VL
end
section
set_option maxHeartbeats 4000000
/-! V34: what is asked of a caught error. -/
namespace PySem.W
open PySem PySem.Spec PySem.Calls PyProof.Rows
section
variable {prog : Program} {w : World} {A : Around} {E : Value → Shared → Prop} {s : Shared} {K : Frag} {x D : Addr} {ox od : Obj}
/-- its class, of an error that has fields -/
theorem vl_exc_class {Q : Option Value → Shared → Prop} (c : L2.ExcC K D) (X : K.In s.heap) (I : InstAt s.heap x ox D (some od)) (h : Q (some (.ref D)) { s with toks := s.toks + 1 }) :
    wpAny (model prog w) A (getAttr? (.ref x) "__class__") Q E s := by
  have hcs : (clsIn K D).isSome = true := by
    obtain ⟨q, hq, _⟩ := any_some c.hd
    rw [hq]; rfl
  have look : Looks (model prog w) s.heap _ _ := looks_find (M := model prog w) X I (findObj_data hcs c.ha c.hn c.ht)
  have ty : Looks (model prog w) s.heap _ _ := I.type (M := model prog w)
  have isE : Looks (model prog w) s.heap (isInstance (.ref x) (.type "BaseException")) true := ty.andThen (looks_subIn X c.hs)
  have own := looks_findIn (M := model prog w) X c.hg
  have hook := looks_findIn (M := model prog w) X c.hk
  obtain ⟨hp, g, d, t, os⟩ := s
  have dif : (Value.builtin "BaseException.__getattribute__" == Value.builtin "object.__getattribute__") = false := by decide +kernel
  have both : (onTheHeap (Value.ref D) && Value.builtin "BaseException.__getattribute__" == Value.builtin "object.__getattribute__") = false := by rw [dif, Bool.and_false]
  have off : (false && onTheHeap (Value.builtin "BaseException.__getattribute__")) = false := rfl
  have fin : ∀ (Q' : Value → Shared → Prop) (E' : Value → Shared → Prop), Q' (.ref D) ⟨hp, g, d, t + 1, os⟩ →
      wpAny (model prog w) A (call (.builtin "BaseException.__getattribute__") [.ref x, .str "__class__" t]) Q' E' ⟨hp, g, d, t + 1, os⟩ := fun Q' E' q => by
    refine wpAny_call (codeAny_call_builtin PySem.F.excAttr_ValueError.ga.plain PySem.F.entry_bexc_ga ?_)
    refine @check_slot (model prog w) _ _ ⟨hp, g, d, t + 1, os⟩ "BaseException.__getattribute__" "BaseException" "__getattribute__" (.ref x) [.str "__class__" t] [] _ (by decide +kernel) (by decide +kernel) isE (PySem.F.args_bexc_ga (.ref x) (.str "__class__" t)) ?_
    unfold Builtin.«object.__getattribute__»
    refine wpAny_bind (wpAny_of_eq (a := ((Value.ref x : Value), [Value.str "__class__" t])) (by first | rfl | (simp only [slotArgs]; rfl)) (wpAny_bind (wpAny_pure (wpAny_bind (ty.at (wpAny_bind (look.at ?_)))))))
    show wpAny _ _ (holding [Value.builtin "object.__class__"] (call (.builtin "getset_descriptor.__get__") [.builtin "object.__class__", .ref x, .ref D]) >>= ret) _ _ _
    refine wpAny_bind (wpAny_holding (wpAny_call (class_get (s := ⟨hp, g, d, t + 1, os⟩) (ox := ox) (od := some od) X I c.hm (wpAny_pure ?_))))
    exact q
  unfold getAttr? getAttrBy? getAttrBy
  refine wpAny_bind (wpAny_mkText (wpAny_bind (wpAny_attempt (wpAny_holding (wpAny_bind (ty.at (wpAny_bind (own.at ?_))))))))
  show wpAny _ _ (if (onTheHeap (Value.ref D) && Value.builtin "BaseException.__getattribute__" == Value.builtin "object.__getattribute__") = true then _ else _) _ _ _
  rw [both, if_neg Bool.false_ne_true]
  unfold getAttrByItsOwn hookBefore
  apply wpAny_bind
  rw [if_pos (show onTheHeap (Value.ref D) = true from rfl)]
  refine hook.at (wpAny_bind (wpAny_attempt (wpAny_holding ?_)))
  unfold callGetattribute
  rw [off, if_neg Bool.false_ne_true]
  unfold boundAndCalled
  rw [PySem.F.excAttr_ValueError.ga.bind (.ref x)]
  refine wpAny_bind (wpAny_pure ?_)
  refine fin _ _ ?_
  first
    | exact h
    | exact wpAny_pure h
    | exact wpAny_pure (wpAny_pure h)
    | exact wpAny_bind (wpAny_pure (wpAny_pure h))
theorem vl_cls_obj (c : L2.ExcC K D) : ∃ (oc : Value) (od : Option Addr) (cd : ClassData) (sl : Array (Option Value)), K.lookup D = some ⟨oc, od, .cls cd, sl⟩ := by
  obtain ⟨q, hq, _⟩ := any_some c.hd
  unfold clsIn at hq
  split at hq
  · rename_i h
    exact ⟨_, _, _, _, h⟩
  · cases hq
theorem vl_kitx_exc (c : L2.ExcC K D) : KitX K (.ref x) (.ref D) (fun h => ∃ ox od, InstAt h x ox D od) where
  ty := fun _ _ _ ⟨_, _, I⟩ => I.type
  it := fun M h X _ => by
    obtain ⟨oc, od, cd, sl, hk⟩ := vl_cls_obj c
    intro B P R u keep q
    unfold isType loadHead
    apply wpAny_bind
    exact wpAny_loadPart (keep _ _ (X _ _ hk)) (wpAny_pure q)
  ne := fun h tp dd its n sl X ht => by
    obtain ⟨oc, od, cd, sl, hk⟩ := vl_cls_obj c
    by_cases e : D = tp
    · subst e
      have := (X _ _ hk).symm.trans ht
      cases this
    · exact Bool.eq_false_iff.mpr fun q => e (Value.ref.inj (beq_iff_eq.mp q))
  ca := fun X ⟨ox, od, I⟩ k => by
    cases od with
    | none => exact kin_classE c.hg c.hk c.hs c.hd c.ha c.hn c.ht c.hm X I k
    | some od => exact vl_exc_class c X I k
end
end PySem.W
namespace VL
open PySem PySem.Spec PyProof.Rows L2
section
variable {X : Cx} {Z : Zx} {h : Ht} {e : Expr} {es : List Expr} {pos : Pos} {x : Sx} {xs : Sxs} {r : Fr} {σ : L2.St} {F F' H H' H2 : Hp} {fp : Nat → List Addr} {fs : List D}
/-- isinstance(e, c), e the caught error, d its dict -/
def rIsX (K : PySem.W.Frag) (a Da : Addr) (d : Option Addr) : List V → Hp → VK → Prop := fun xs H Q => ∃ (c : V) (cv : Value) (b : Bool), xs = [.ref a, c] ∧ (∀ u, RelV c u → u = cv) ∧ (∀ dd, d = some dd → ∃ l, H dd = some (.xd l)) ∧ PySem.W.kitOne K (.ref Da) cv = some b ∧ Q (.bl b) H
theorem call_isX {a Da : Addr} {d : Option Addr} {oe : Obj} {pn : List (Addr × Obj)} (C : L2.ExcC X.K Da) (hz : L2.Zc (.ref Da) d oe) (hf : ∃ vs, oe.data = .fields vs) : CallR (X.suite a ((a, oe) :: pn)) (.builtin "isinstance") (rIsX X.K a Da d) := by
  intro pins s σ H xs us Q I r ⟨c, cv, b, hx, hcv, hd, e, q⟩
  subst hx
  match us, r with
  | [u1, u2], .cons rx (.cons rt .nil) =>
    cases rx
    have ec := hcv _ rt
    subst ec
    obtain ⟨hget, _⟩ := I.pin (a, oe) (List.mem_append.mpr (.inl List.mem_cons_self))
    have J : ∃ ox od, PySem.W.InstAt s.heap a ox Da od := by
      obtain ⟨vs, hv⟩ := hf
      have hnc : PySem.W.notCls oe = true := by unfold PySem.W.notCls; rw [hv]
      cases d with
      | none => exact ⟨oe, none, hget, hz.1, hnc, by rw [hz.2]; trivial⟩
      | some dd =>
        obtain ⟨l, hl⟩ := hd dd rfl
        have ho : ObjOk X.prog X.w H s.heap dd (.xd l) := I.hok dd _ hl
        obtain ⟨mA, hns, hr⟩ := ho
        obtain ⟨od, ho, _⟩ := lookIn_ns hns
        exact ⟨oe, some od, hget, hz.1, hnc, by rw [hz.2]; exact ho⟩
    exact PySem.W.kia_one (PySem.W.vl_kitx_exc C) I.kIn J e (fun z => nomatch z) fun tk => ⟨.bl b, H, I.kept (t' := tk) fun _ _ z => z, rfl, q⟩
/-- a class that every error of cs is one of -/
structure IsxC (K : PySem.W.Frag) (mg : Str → Option Value) (exc : List (Addr × List Str)) (x : Str) (cs : List Nat) : Prop where
  ex : ∃ CA : Addr, mg x = some (.ref CA) ∧ ∀ c ∈ cs, ∀ CB names, exc[c]? = some (CB, names) → L2.ExcC K CB ∧ PySem.W.kitOne K (.ref CB) (.ref CA) = some true
theorem px_isE {exc : List (Addr × List Str)} {cls : Clz} {a : Addr} {oe : Obj} {cl : Value} {d : Option Addr} {pn : List (Addr × Obj)} {j : Nat} {cs : List Nat} {y z : Str} {p p0 p1 : Pos} (k : IsxC X.K X.mg exc z cs) (hg : Gl X "isinstance") (hm : X.mg "isinstance" = none) (hgz : Gl X z)
    (hz : L2.Zc cl d oe) (hf : ∃ vs, oe.data = .fields vs) (he : PE (X.suite a ((a, oe) :: pn)) (.Name y p0) (tVar j)) (hdb : (z == ("__debug__" : Str)) = false := by decide) :
    PE (X.suite a ((a, oe) :: pn)) (.Call (.Name "isinstance" p) [.Name y p0, .Name z p1] [] pos) (tXx (zx X cls exc) ⟨a, some j, cs, cl, d⟩ (.cst (.bl true))) := by
  refine ⟨fun pins s σ H Q I ⟨r, F, fp, fs, dd, ok, ev, q⟩ => ?_⟩
  cases ev
  obtain ⟨R, ⟨c, hc, CB, names, h1, h2, h3, h4⟩, hnm⟩ := ok
  obtain ⟨CA, k1, k2⟩ := k.ex
  obtain ⟨k3, k4⟩ := k2 c hc CB names h1
  have h2' : cl = .ref CB := h2
  subst h2'
  refine (pe_callB (call_isX k3 hz hf) hg hm PyProof.Rows.boot_isinstance (pa_cons he (pa_cons (pe_glob (X := X.suite a ((a, oe) :: pn)) (v := .ref CA) (u := .ref CA) hgz k1 rfl hdb) pa_nil))).run pins s σ H Q I ?_
  refine ⟨.ref a, hnm j rfl, .ref CA, .ref CA, true, rfl, fun u hu => hu, fun dx hdx => ?_, k4, q _ F H (.refl R.same) (.bl true)⟩
  rcases h4 with h4 | ⟨dx', vs, l, q1, q2, q3, q4⟩
  · have h4' : d = none := h4.2
    rw [h4'] at hdx
    cases hdx
  · have q1' : d = some dx' := q1
    rw [q1'] at hdx
    cases hdx
    exact ⟨l, R.same _ _ q2⟩
theorem px_ite {a b t : Expr} {tb : TE} (ht : PE X t (tXx Z h (.cst (.bl true)))) (ha : PE X a (tXx Z h x)) (hb : PE X b tb) (he : ∀ whole, isTrue t X.env whole = (do let v ← whole; standAt t.pos; holding [v] (truthy v)) := by intro _; rfl) : PE X (.IfExp t a b pos) (tXx Z h x) := by
  refine (pe_ifExp (pt_val ht he) ha hb).cons fun σ H Q ⟨r, F, fp, fs, dd, ok, ev, q⟩ => ?_
  refine ⟨r, F, fp, fs, .bl true, ok, rfl, fun v F1 H1 n1 r1 => ?_⟩
  cases r1
  refine ⟨true, rfl, iteT ?_⟩
  exact ⟨r, F1, fp, fs, dd, ok.next n1, ev, fun v F2 H2 n2 r2 => q v F2 H2 (n1.trans n2) r2⟩
theorem px_inc {y : Str} {i : Nat} {p p0 : Pos} {kk : Nat} (hv : PE X (.Name y p) (tVar i)) : PE X (.BinOp (.Name y p) .Add (.Constant (.int 1) kk p0) pos) (tXx Z h (.inc i)) := by
  refine (pe_op op_add hv pe_int).cons fun σ H Q ⟨r, F, fp, fs, dd, ok, ev, q⟩ => ?_
  unfold evX at ev
  split at ev
  · rename_i n hs
    cases ev
    obtain ⟨v, hv⟩ := slot_val ok.1 hs
    have vw := slot_view ok.1 hs hv
    cases vw
    exact ⟨.int n, hv, n, 1, rfl, rfl, q _ F H (.refl ok.1.same) (.int _)⟩
  · cases ev
def lenX : Sxs → Nat
  | .nil => 0
  | .cons _ xs => lenX xs + 1
theorem evXs_len {r : Fr} {fs : List D} : ∀ {xs : Sxs} {ds : List D}, evXs fs r xs = some ds → ds.length = lenX xs
  | .nil, ds, h => by unfold evXs at h; cases h; rfl
  | .cons x xs, ds, h => by
    unfold evXs at h
    split at h
    · rename_i d0 ds0 h1 h2
      cases h
      rw [List.length_cons, evXs_len h2]
      rfl
    · cases h
theorem px_tup' {k : Nat} (hes : PA X es (tXs Z h xs)) (hz : lenX xs ≤ 100 := by decide) : PE X (.Tuple es k pos) (tXx Z h (.tup xs)) := px_tup hes fun fs r ds e => by rw [evXs_len e]; exact hz
theorem px_lst' (hes : PA X es (tXs Z h xs)) (hz : lenX xs ≤ 100 := by decide) : PE X (.List es pos) (tXx Z h (.lst xs)) := px_lst hes fun fs r ds e => by rw [evXs_len e]; exact hz
end
end VL
end
section
/-! V35: min, max of a list; min(a, b). -/
namespace VL
open PySem PySem.Spec PyProof.Rows L2
mutual
/-- a value reads as one thing only -/
theorem rd_uni {h : Heap} : ∀ (d : PyData) {d' : PyData} {v : Value} {as bs : List Addr}, d.plain = true → Reads h v d as → Reads h v d' bs → d = d'
  | .none, _, _, _, _, _, r1, r => by cases r1; cases r; rfl
  | .bool b, _, _, _, _, _, r1, r => by cases r1; cases r; rfl
  | .int i, _, _, _, _, _, r1, r => by cases r1; cases r; rfl
  | .str x, _, _, _, _, _, r1, r => by cases r1; cases r; rfl
  | .list zs, _, _, _, _, hp, r1, r => by
    have hp' : PyData.plainAll zs = true := by unfold PyData.plain at hp; exact hp
    cases r1 with
    | list h1 h2 h3 h4 =>
      cases r with
      | list k1 k2 k3 k4 =>
        rw [h1] at k1; cases k1
        rw [h3] at k3; cases k3
        rw [rd_uniL zs hp' h4 k4]
      | tuple k1 k2 _ _ =>
        rw [h1] at k1; cases k1
        rw [h2] at k2; exact absurd (Value.type.inj k2) (by decide)
      | dict k1 k2 _ _ _ =>
        rw [h1] at k1; cases k1
        rw [h2] at k2; exact absurd (Value.type.inj k2) (by decide)
  | .tuple zs, _, _, _, _, hp, r1, r => by
    have hp' : PyData.plainAll zs = true := by unfold PyData.plain at hp; exact hp
    cases r1 with
    | tuple h1 h2 h3 h4 =>
      cases r with
      | tuple k1 k2 k3 k4 =>
        rw [h1] at k1; cases k1
        rw [h3] at k3; cases k3
        rw [rd_uniL zs hp' h4 k4]
      | list k1 k2 _ _ =>
        rw [h1] at k1; cases k1
        rw [h2] at k2; exact absurd (Value.type.inj k2) (by decide)
      | dict k1 k2 _ _ _ =>
        rw [h1] at k1; cases k1
        rw [h2] at k2; exact absurd (Value.type.inj k2) (by decide)
  | .dict _, _, _, _, _, hp, _, _ => by unfold PyData.plain at hp; cases hp
theorem rd_uniL {h : Heap} : ∀ (ds : List PyData) {ds' : List PyData} {vs : List Value} {as bs : List Addr}, PyData.plainAll ds = true → ReadsAll h vs ds as → ReadsAll h vs ds' bs → ds = ds'
  | [], _, _, _, _, _, r1, r => by cases r1; cases r; rfl
  | d :: ds, _, _, _, _, hp, r1, r => by
    unfold PyData.plainAll at hp
    rw [Bool.and_eq_true] at hp
    cases r1 with
    | cons h1 h2 =>
      cases r with
      | cons k1 k2 => rw [rd_uni d hp.1 h1 k1, rd_uniL ds hp.2 h2 k2]
end
mutual
theorem toP_inj : ∀ {a b : D}, plainD a = true → plainD b = true → toP a = toP b → a = b
  | .non, b, _, hb, e => by cases b <;> first | rfl | (unfold toP at e; cases e; done) | (unfold plainD at hb; cases hb; done)
  | .bl x, b, _, hb, e => by cases b <;> first | (unfold toP at e; cases e; rfl) | (unfold toP at e; cases e; done) | (unfold plainD at hb; cases hb; done)
  | .int x, b, _, hb, e => by cases b <;> first | (unfold toP at e; cases e; rfl) | (unfold toP at e; cases e; done) | (unfold plainD at hb; cases hb; done)
  | .str x, b, _, hb, e => by cases b <;> first | (unfold toP at e; cases e; rfl) | (unfold toP at e; cases e; done) | (unfold plainD at hb; cases hb; done)
  | .tup xs, b, ha, hb, e => by
    cases b <;> first | (unfold toP at e; cases e; done) | (unfold plainD at hb; cases hb; done) | skip
    rename_i ys
    unfold toP at e
    unfold plainD at ha hb
    rw [toPL_inj ha hb (PyData.tuple.inj e)]
  | .lst xs, b, ha, hb, e => by
    cases b <;> first | (unfold toP at e; cases e; done) | (unfold plainD at hb; cases hb; done) | skip
    rename_i ys
    unfold toP at e
    unfold plainD at ha hb
    rw [toPL_inj ha hb (PyData.list.inj e)]
  | .dct _, _, ha, _, _ => by unfold plainD at ha; cases ha
  | .obj _ _, _, ha, _, _ => by unfold plainD at ha; cases ha
  | .rng _ _ _ _, _, ha, _, _ => by unfold plainD at ha; cases ha
theorem toPL_inj : ∀ {xs ys : List D}, plainL xs = true → plainL ys = true → toPL xs = toPL ys → xs = ys
  | [], [], _, _, _ => rfl
  | [], y :: ys, _, _, e => by unfold toPL at e; cases e
  | x :: xs, [], _, _, e => by unfold toPL at e; cases e
  | x :: xs, y :: ys, ha, hb, e => by
    unfold toPL at e
    unfold plainL at ha hb
    rw [Bool.and_eq_true] at ha hb
    obtain ⟨e1, e2⟩ := List.cons.inj e
    rw [toP_inj ha.1 hb.1 e1, toPL_inj ha.2 hb.2 e2]
end
section
variable {X : Cx} {cls : Clz} {exc : List (Addr × List Str)} {Z : Zx} {F H : Hp} {pins : List (Addr × Obj)} {σ : L2.St} {s : Shared}
theorem minD_toP (x : D) (xs : List D) : PySem.W.minD (toP x) (xs.map toP) = toP (xs.foldl (fun a y => if ltD y a then y else a) x) := by
  unfold PySem.W.minD
  induction xs generalizing x with
  | nil => rfl
  | cons y ys ih =>
    rw [List.map_cons, List.foldl_cons, List.foldl_cons, ← ih]
    unfold ltD
    split <;> rfl
theorem maxD_toP (x : D) (xs : List D) : PySem.W.maxD (toP x) (xs.map toP) = toP (xs.foldl (fun a y => if ltD a y then y else a) x) := by
  unfold PySem.W.maxD
  induction xs generalizing x with
  | nil => rfl
  | cons y ys ih =>
    rw [List.map_cons, List.foldl_cons, List.foldl_cons, ← ih]
    unfold ltD
    split <;> rfl
theorem fold_mem {α : Type} (f : α → α → Bool) : ∀ (xs : List α) (x : α), xs.foldl (fun a y => if f a y then y else a) x ∈ x :: xs
  | [], x => List.mem_cons_self
  | y :: ys, x => by
    rw [List.foldl_cons]
    have := fold_mem f ys (if f x y then y else x)
    rcases List.mem_cons.mp this with h | h
    · rw [h]
      split
      · exact List.mem_cons_of_mem _ List.mem_cons_self
      · exact List.mem_cons_self
    · exact List.mem_cons_of_mem _ (List.mem_cons_of_mem _ h)
/-- what is found is one of the items -/
theorem found_item (I : Inv X pins σ H s) {zs : List D} {ys : List V} {its : List Value} (e : Same F H) (hal : alikeAllD zs = true) (hr : RepL (zx X cls exc) F zs ys) (rv : Vals ys its) {m : D} (hm : m ∈ zs) {i : Nat} {v : Value} {h' : Heap} {bs : List Addr} (hi : its[i]? = some v) (hk : ∀ b o, s.heap.get? b = some o → h'.get? b = some o) (hrd : Reads h' v (toP m) bs) :
    ∃ y, RelV y v ∧ Rep (zx X cls exc) F m y := by
  have hlen : zs.length = its.length := hr.length.trans rv.length
  have hil : i < zs.length := by rw [hlen]; exact (List.getElem?_eq_some_iff.mp hi).1
  obtain ⟨y, hy, ry⟩ := hr.get (List.getElem?_eq_getElem hil)
  have ryv : RelV y v := by
    obtain ⟨u, hu, r⟩ := Vals.get rv hy
    rw [hi] at hu; cases hu; exact r
  have pd : ∀ d ∈ zs, plainD d = true := fun d hd => (alike_toP (alikeAll_of hal d hd d hd)).1
  have p1 := pd _ (List.getElem_mem hil)
  obtain ⟨as, r1⟩ := Dp.reads I _ _ _ (Rep.dp (ry.mono e) p1) ryv
  have e1 := rd_uni _ (plain_toP _ p1) (PySem.W.reads_keeps hk r1) hrd
  have e2 := toP_inj p1 (pd m hm) e1
  exact ⟨y, ryv, e2 ▸ ry⟩
theorem reads_list (I : Inv X pins σ H s) {zs : List D} {ys : List V} {its : List Value} (e : Same F H) (hal : alikeAllD zs = true) (hr : RepL (zx X cls exc) F zs ys) (rv : Vals ys its) : ∃ as, ReadsAll s.heap its (zs.map toP) as := by
  have pd : plainL zs = true := by
    have : ∀ ds : List D, (∀ d ∈ ds, plainD d = true) → plainL ds = true := fun ds => by
      induction ds with
      | nil => intro _; rfl
      | cons d ds ih => intro h; unfold plainL; rw [h d List.mem_cons_self, ih fun q hq => h q (List.mem_cons_of_mem _ hq)]; rfl
    exact this zs fun d hd => (alike_toP (alikeAll_of hal d hd d hd)).1
  have := Dp.readsAll I _ _ _ (RepL.dp (hr.mono e) pd) rv
  rwa [toPL_map] at this
theorem depth_all {zs : List D} (hal : alikeAllD zs = true) : PyData.depthAll (zs.map toP) ≤ 60 := by
  rw [← toPL_map, depth_toPL]
  have : ∀ ds : List D, (∀ d ∈ ds, depthD d ≤ 60) → depthL ds ≤ 60 := fun ds => by
    induction ds with
    | nil => intro _; exact Nat.zero_le _
    | cons d ds ih =>
      intro h
      unfold depthL
      exact Nat.max_le.mpr ⟨h d List.mem_cons_self, ih fun q hq => h q (List.mem_cons_of_mem _ hq)⟩
  exact this zs fun d hd => (alike_toP (alikeAll_of hal d hd d hd)).2.2.2.2.1
theorem alike_all {zs : List D} (hal : alikeAllD zs = true) : PySem.W.AlikeAll (zs.map toP) := by
  refine ⟨fun a ha b hb => ?_, fun a ha => ?_⟩
  · obtain ⟨x, hx, rfl⟩ := List.mem_map.mp ha
    obtain ⟨y, hy, rfl⟩ := List.mem_map.mp hb
    exact (alike_toP (alikeAll_of hal x hx y hy)).2.2.1
  · obtain ⟨x, hx, rfl⟩ := List.mem_map.mp ha
    exact (alike_toP (alikeAll_of hal x hx x hx)).2.2.2.1
theorem call_min1V (hc : X.calm = true) (hu : X.A.units + 70 < cLine) : CallR X (.builtin "min") (rBlt (zx X cls exc) (bltD .min1)) := by
  intro pins s σ H xs us Q I r ⟨F, ds, res, e, vs, hd, q⟩
  unfold bltD at hd
  split at hd <;> first | contradiction | skip
  rename_i zs _
  unfold minDl at hd
  cases zs with
  | nil => cases hd
  | cons z zs =>
    dsimp only at hd
    split at hd
    · rename_i hal
      cases hd
      obtain ⟨v, rfl, hv⟩ := vs.one
      obtain ⟨p, ys, rfl, ha, hr⟩ := hv
      obtain ⟨its, rv, hl, hz⟩ := I.list (.of ha)
      rw [Vals.ref1 r]
      obtain ⟨as, ra⟩ := reads_list I e hal hr rv
      refine PySem.W.min_list_data (x := toP z) (xs := zs.map toP) (I.ok.hd hc) hl.isList (by simpa using ra) (alike_all hal) (by have := depth_all hal; rw [List.map_cons] at this; show X.A.units + 1 + _ < _; omega) fun i v h' tk bs hi hrd hk => ?_
      rw [minD_toP] at hrd
      obtain ⟨y, ry, rp⟩ := found_item I e hal hr rv (fold_mem (fun a y => ltD y a) zs z) (by simpa using hi) hk hrd
      exact ⟨y, H, I.kept (t' := tk) hk, ry, q.now e rp⟩
    · cases hd
theorem call_max1V (hc : X.calm = true) (hu : X.A.units + 70 < cLine) : CallR X (.builtin "max") (rBlt (zx X cls exc) (bltD .max1)) := by
  intro pins s σ H xs us Q I r ⟨F, ds, res, e, vs, hd, q⟩
  unfold bltD at hd
  split at hd <;> first | contradiction | skip
  rename_i zs _
  unfold maxDl at hd
  cases zs with
  | nil => cases hd
  | cons z zs =>
    dsimp only at hd
    split at hd
    · rename_i hal
      cases hd
      obtain ⟨v, rfl, hv⟩ := vs.one
      obtain ⟨p, ys, rfl, ha, hr⟩ := hv
      obtain ⟨its, rv, hl, hz⟩ := I.list (.of ha)
      rw [Vals.ref1 r]
      obtain ⟨as, ra⟩ := reads_list I e hal hr rv
      refine PySem.W.max_list_data (x := toP z) (xs := zs.map toP) (I.ok.hd hc) hl.isList (by simpa using ra) (alike_all hal) (by have := depth_all hal; rw [List.map_cons] at this; show X.A.units + 1 + _ < _; omega) fun i v h' tk bs hi hrd hk => ?_
      rw [maxD_toP] at hrd
      obtain ⟨y, ry, rp⟩ := found_item I e hal hr rv (fold_mem (fun a y => ltD a y) zs z) (by simpa using hi) hk hrd
      exact ⟨y, H, I.kept (t' := tk) hk, ry, q.now e rp⟩
    · cases hd
theorem call_min2V (hc : X.calm = true) : CallR X (.builtin "min") (rBlt (zx X cls exc) (bltD .min2)) := by
  intro pins s σ H xs us Q I r ⟨F, ds, res, e, vs, hd, q⟩
  unfold bltD at hd
  split at hd <;> first | contradiction | skip
  cases hd
  obtain ⟨v, w, rfl, hv, hw⟩ := vs.two
  cases hv; cases hw
  exact call_min2 hc pins s σ H _ us Q I r ⟨_, _, rfl, q.int e⟩
end
end VL
end
section
/-! V36: a written dict of the module: texts to tuples of whole numbers. -/
namespace VL
open PySem PySem.Spec PyProof.Rows L2
/-- entries of a written dict -/
inductive KTabE (K : PySem.W.Frag) : List (Str × List Int) → List DictEntry → Prop
  | nil : KTabE K [] []
  | cons {k : Str} {ns : List Int} {e : DictEntry} {t : Addr} {tok : Tok} {o : Obj} {its : Array Value} {n : Nat} {r : List (Str × List Int)} {es : List DictEntry} (h1 : e.key = .str k tok) (h2 : e.val = .ref t) (h3 : K.lookup t = some o) (h4 : o.cls = .type "tuple") (h5 : o.dict = none) (h6 : o.data = .seq its n)
      (h7 : its.size ≤ sizeLine) (h8 : Vals (ns.map V.int) its.toList) (rest : KTabE K r es) : KTabE K ((k, ns) :: r) (e :: es)
structure KTab (K : PySem.W.Frag) (w : World) (mg : Str → Option Value) (x : Str) (tbl : List (Str × List Int)) : Prop where
  ex : ∃ (d : Addr) (es : Array DictEntry) (n : Nat), mg x = some (.ref d) ∧ KDict K w d es n ∧ KTabE K tbl es.toList
def lookT (z : Str) : List (Str × List Int) → Option (List Int)
  | [] => none
  | (k, ns) :: r => if k = z then some ns else lookT z r
def kgetS (tbl : List (Str × List Int)) : Sem
  | [.str z, y] => .ret false (match lookT z tbl with
    | some ns => .tup (ns.map .int)
    | none => y) []
  | _ => .bad
def fd_kget (tbl : List (Str × List Int)) : Fd := ⟨[], 2, kgetS tbl⟩
section
variable {X : Cx} {cls : Clz} {exc : List (Addr × List Str)} {W : WX} {G : List Fd} {C : List D} {a b e o : Expr} {es : List Expr} {xa xb : Ex} {pos p apos cpos : Pos} {x : Str} {tbl : List (Str × List Int)}
variable {Z : Zx} {σ : L2.St} {F H : Hp} {s : Shared} {pins : List (Addr × Obj)}
theorem ktab_look {K : PySem.W.Frag} (z : Str) : ∀ {tbl : List (Str × List Int)} {es : List DictEntry}, KTabE K tbl es → (lookT z tbl = none ∧ es.find? (·.key.isStr z) = none ∧ es.any (·.refKey) = false) ∨ ∃ ns e t o its n, lookT z tbl = some ns ∧ es.find? (·.key.isStr z) = some e ∧ e.val = .ref t ∧ K.lookup t = some o ∧ o.cls = .type "tuple" ∧ o.dict = none ∧ o.data = .seq its n ∧ its.size ≤ sizeLine ∧ Vals (ns.map V.int) its.toList
  | _, _, .nil => .inl ⟨rfl, rfl, rfl⟩
  | _, _, .cons (k := k) (e := e) h1 h2 h3 h4 h5 h6 h7 h8 rest => by
    have hk : e.key.isStr z = (k == z) := by rw [h1]; rfl
    by_cases hz : k = z
    · refine .inr ⟨_, e, _, _, _, _, by unfold lookT; rw [if_pos hz], ?_, h2, h3, h4, h5, h6, h7, h8⟩
      rw [List.find?_cons, hk, beq_iff_eq.mpr hz]
    · have hb : (k == z) = false := beq_eq_false_iff_ne.mpr hz
      rcases ktab_look z rest with ⟨q1, q2, q3⟩ | ⟨ns, e', t, o, its, n, q1, q2, q3⟩
      · refine .inl ⟨by unfold lookT; rw [if_neg hz]; exact q1, by rw [List.find?_cons, hk, hb]; exact q2, ?_⟩
        rw [List.any_cons, q3]
        have : e.refKey = false := by unfold DictEntry.refKey; rw [h1]
        rw [this]; rfl
      · exact .inr ⟨ns, e', t, o, its, n, by unfold lookT; rw [if_neg hz]; exact q1, by rw [List.find?_cons, hk, hb]; exact q2, q3⟩
theorem ints_rep (F : Hp) : ∀ ns : List Int, RepL Z F (ns.map D.int) (ns.map V.int)
  | [] => .nil
  | n :: ns => .cons (.int n) (ints_rep F ns)
/-- d.get(k, y) of it -/
def rGetK (Z : Zx) (d : Addr) (tbl : List (Str × List Int)) : V → List V → Hp → VK → Prop := fun x xs H Q => ∃ F z y vy, x = .ref d ∧ xs = [.str z, vy] ∧ Rep Z F y vy ∧ ∀ v, Rep Z F (match lookT z tbl with
    | some ns => .tup (ns.map .int)
    | none => y) v → Q v H
theorem mt_getK {d : Addr} {es : Array DictEntry} {n : Nat} (hd : KDict X.K X.w d es n) (ht : KTabE X.K tbl es.toList) : MtR X "dict.get" (rGetK (zx X cls exc) d tbl) := by
  intro pins s σ H x xs v us Q I rx rs ⟨F, z, y, vy, hx, hxs, hy, q⟩
  subst hx hxs
  cases rx
  obtain ⟨u1, u2, rfl, r1, r2⟩ := vals2 rs
  obtain ⟨t, rfl⟩ := r1
  have mp := PySem.W.mapOf_K (prog := X.prog) (w := X.w) I.kIn hd.at_ hd.lit
  refine call_meetsIn PySem.F.slot_dict_get mp.typeIs PySem.F.entry_dict_get (PySem.F.args_dict_get_3 _ _ _) (meets_dict_get_default (strKind X.prog X.w) d (PySem.strKind_is X.prog X.w z t) hd.low u2) ⟨_, mp, ?_⟩
  rcases ktab_look z ht with ⟨q1, q2, q3⟩ | ⟨ns, e, t', o, its, n', q1, q2, q3, q4, q5, q6, q7, q8, q9⟩
  · have en : PySem.W.nsIn X.K d z = some none := by
      unfold PySem.W.nsIn
      rw [hd.at_]
      dsimp only
      rw [q2]
      dsimp only
      rw [q3]
      rfl
    rw [PySem.W.find_K hd.at_ en]
    rw [q1] at q
    exact ⟨vy, H, I.tok _, r2, q vy hy⟩
  · have en : PySem.W.nsIn X.K d z = some (some (.ref t')) := by
      unfold PySem.W.nsIn
      rw [hd.at_]
      dsimp only
      rw [q2]
      dsimp only
      rw [q3]
    rw [PySem.W.find_K hd.at_ en]
    rw [q1] at q
    exact ⟨.ref t', H, I.tok _, rfl, q _ (.tup (.inr ⟨o, its, n', q4, q5, q6, q7, q8, q9⟩) (ints_rep F ns))⟩
theorem pe_getK {j : Nat} (k : KTab X.K X.w X.mg x tbl) (hg : Gl X x) (hG : G[j]? = some (fd_kget tbl)) (ha : PA X [a, b] (tA X cls exc W G C (.cons xa (.cons xb .nil))))
    (hdb : (x == ("__debug__" : Str)) = false := by decide)
    (hbase : attributeBase (.Name x p) "get" X.env (eval (.Name x p) X.env) = eval (.Name x p) X.env := by rfl)
    (hfew : ((backTo cpos (starEach [a, b] X.env)).all (fun x => !x.1) && (backToKw cpos (keywordEach [] X.env)).all (fun x => x.1.isSome)
      && decide ([a, b].length + ([] : List Keyword).length + (if ([] : List Keyword).isEmpty then 0 else 1) < 30)) = true := by rfl)
    (hline : (apos.endLine == cpos.line) = true := by rfl) (hs : starEach [a, b] X.env = (false, eval a X.env) :: starEach [b] X.env := by rfl) (hplain : (backTo cpos (starEach [b] X.env)).any (·.1) = false := by rfl) :
    PE X (.Call (.Attribute (.Name x p) "get" apos) [a, b] [] cpos) (tE X cls exc W G C (.call j (.cons xa (.cons xb .nil)))) := by
  obtain ⟨d, es, n, h1, h2, h3⟩ := k.ex
  refine (pe_mW PySem.F.plainAttrs_dict PySem.F.slot_dict_get PySem.F.type_dict_get (mt_getK (cls := cls) (exc := exc) h2 h3) (pe_glob (v := .ref d) (u := .ref d) hg h1 rfl hdb) ha hbase hfew hline hs hplain).cons fun σ H Q ⟨r, F, fp, R, g⟩ => ?_
  refine ⟨.inr (.inr (.inr ⟨rfl, d, es, n, rfl, h2.at_⟩)), ?_⟩
  rw [evE] at g
  obtain ⟨r0, F0, fp0, R0, g0⟩ := stepA R (.refl ..) g
  refine ⟨r0, F0, fp0, R0, g0.mono fun ys H1 ⟨vs, r1, F1, fp1, f1, A1, g1⟩ => ?_⟩
  obtain ⟨fd', hfd, g2⟩ := g1.orBad
  rw [hG] at hfd
  cases hfd
  unfold callF at g2
  split at g2
  · exact g2.elim
  · rename_i ds r2 hl
    have hl' : takeL vs r1 = some (ds, r2) := hl
    obtain ⟨F2, R2, p2, e2, s2⟩ := take_vals A1 (.refl ..) hl'
    split at g2
    · rename_i hnp
      cases hs : (fd_kget tbl).sem ds with
      | bad => rw [hs] at g2; exact g2.elim
      | exc c fs outs =>
        have : kgetS tbl ds = .exc c fs outs := hs
        unfold kgetS at this
        split at this <;> cases this
      | ret o d' outs =>
        rw [hs] at g2
        have hk : kgetS tbl ds = .ret o d' outs := hs
        unfold kgetS at hk
        split at hk
        · rename_i z y
          cases hk
          have g3 : GdG (zx X cls exc) σ (PVl (zx X cls exc) σ) ⟨r, fp, F, H⟩ W Q (match backL [] vs [] r2 with
            | some r3 => .ok (.fro (match lookT z tbl with
              | some ns => .tup (ns.map .int)
              | none => y)) r3
            | none => .bad) := g2
          have hb : backL [] vs [] r2 = some r2 ∨ backL [] vs [] r2 = none := by
            cases hb : backL [] vs [] r2 with
            | none => exact .inr rfl
            | some r3 => exact .inl (by rw [(back_nil hb).2])
          rcases hb with hb | hb
          · rw [hb] at g3
            obtain ⟨v1, v2, rfl, k1, k2⟩ := p2.two
            cases k1
            exact ⟨F2, z, y, v2, rfl, rfl, k2, fun v hv => fro_now g3 e2 R2 hv⟩
          · rw [hb] at g3
            exact g3.elim
        · cases hk
    · exact g2.elim
end
end VL
end
section
/-! V37: a field of an object of one's own is set. -/
namespace VL
open PySem PySem.Spec PyProof.Rows L2
section
variable {X : Cx} {cls : Clz} {exc : List (Addr × List Str)} {W : WX} {G : List Fd} {C : List D} {a b e o : Expr} {es : List Expr} {xa xb xe : Ex} {pos p apos cpos : Pos} {x f y : Str}
variable {Z : Zx} {r r' : Fr} {σ : L2.St} {F H : Hp} {fp : Nat → List Addr} {s : Shared} {pins : List (Addr × Obj)}
def setAtV (vs : List V) (k : Nat) (v : V) : List V := if k < vs.length then vs.set k v else vs ++ [v]
theorem setAt_rep {fs fs' : List D} {vs : List V} {k : Nat} {d : D} {v : V} (h : RepL Z F fs vs) (hd : Rep Z F d v) (e : setAt fs k d = some fs') : RepL Z F fs' (setAtV vs k v) ∧ k ≤ vs.length := by
  have hl := h.length
  unfold setAt at e
  unfold setAtV
  split at e
  · rename_i hk
    cases e
    rw [if_pos (by omega)]
    exact ⟨h.set k hd, by omega⟩
  · split at e
    · rename_i hk2
      cases e
      rw [if_neg (by omega)]
      exact ⟨h.append (.one hd), by omega⟩
    · cases e
theorem putF_zip {f : Str} {v : V} : ∀ {ns : List Str} {vs : List V} {k : Nat}, ns.Nodup → ns[k]? = some f → k ≤ vs.length → vs.length ≤ ns.length → putF f v (ns.zip vs) = ns.zip (setAtV vs k v)
  | [], _, k, _, h, _, _ => by simp at h
  | n :: ns, [], k, nd, h, hk, _ => by
    have : k = 0 := by simpa using hk
    subst this
    have : n = f := by simpa using h
    subst this
    show putF n v [] = (n :: ns).zip [v]
    simp [putF]
  | n :: ns, w :: vs, 0, nd, h, hk, hl => by
    have : n = f := by simpa using h
    subst this
    show putF n v ((n, w) :: ns.zip vs) = (n :: ns).zip (setAtV (w :: vs) 0 v)
    unfold putF setAtV
    rw [if_pos rfl, if_pos (by simp)]
    rfl
  | n :: ns, w :: vs, k + 1, nd, h, hk, hl => by
    rw [List.nodup_cons] at nd
    have h' : ns[k]? = some f := by simpa using h
    have hne : ¬ n = f := fun z => nd.1 (z ▸ List.mem_of_getElem? h')
    have ih := putF_zip (v := v) nd.2 h' (by simpa using hk) (by simpa using hl)
    show putF f v ((n, w) :: ns.zip vs) = (n :: ns).zip (setAtV (w :: vs) (k + 1) v)
    unfold putF
    rw [if_neg hne, ih]
    unfold setAtV
    by_cases hlt : k < vs.length
    · rw [if_pos hlt, if_pos (by simpa using hlt)]
      rfl
    · rw [if_neg hlt, if_neg (by simpa using hlt)]
      rfl
theorem setAtV_len {vs : List V} {k : Nat} {v : V} {n : Nat} (hk : k < n) (hl : vs.length ≤ n) (hkv : k ≤ vs.length) : (setAtV vs k v).length ≤ n := by
  unfold setAtV
  split
  · rw [List.length_set]; exact hl
  · rw [List.length_append, List.length_singleton]; omega
theorem ps_sflV {i c k : Nat} {names : List Str} {pn p2 pos : Pos} (h : ObjC X.K cls.l c names) (hf : names[k]? = some f) (hN : X.N[i]? = some y) (hv : Vis X.env.scope y) (he : PE X e (tE X cls exc W G C xe))
    (hs : swapsWith e (some (.Attribute (.Name y pn) f p2)) pos.line X.env = pure false := by rfl) (hd : (y == ("__debug__" : Str)) = false := by decide) (hcd : (y == ("__classdict__" : Str)) = false := by decide) :
    PS X (.Assign [.Attribute (.Name y pn) f p2] e pos) (tSt X cls exc W G C (.sfl i c k xe)) := by
  obtain ⟨ci, h1, ok, h3⟩ := h.ex
  subst h3
  have hk : k < ci.names.length := (List.getElem?_eq_some_iff.mp hf).1
  cases hsl : ci.slotted with
  | true =>
    obtain ⟨k1, k2⟩ := ok.sl hsl
    obtain ⟨pp, t⟩ := k2 k f hf
    refine (SlX.ps_sl (pe_var hN hv hd hcd) he hs).cons fun D σ H ⟨r, F, fp, R, g⟩ => ?_
    rw [evS] at g
    obtain ⟨r0, F0, fp0, R0, g0⟩ := stepS R (.refl ..) g
    refine ⟨r0, F0, fp0, R0, g0.mono fun y0 H1 ⟨va, r1, F1, fp1, f1, A1, g1⟩ => ?_⟩
    obtain ⟨⟨d, r2⟩, ht, g2⟩ := g1.orOut
    obtain ⟨F2, R2, hr, gw, hl⟩ := Vl.take_ok A1.R A1.p ht
    have e2 := gw.ext (fun a ha => (A1.f (.refl ..) a ha).symm) A1.e
    dsimp only at g2
    split at g2
    · rename_i d2 fs hi
      split at g2
      · rename_i hcd2
        subst hcd2
        obtain ⟨fs', hset, g3⟩ := g2.orOut
        obtain ⟨q, hq, ho, hn⟩ := R2.own i _ hi
        obtain ⟨dx, vs, hfp, ⟨od, hod⟩, ⟨ci', hci, hlen, hne, hat⟩, rl⟩ := ho
        have hci' : cls.l[c]? = some ci' := hci
        rw [h1] at hci'
        cases hci'
        rw [if_pos hsl] at hat
        obtain ⟨ws, hat, hws⟩ := hat
        obtain ⟨rl', hkv⟩ := setAt_rep rl hr hset
        refine ⟨.ref q, hq, q, ci.C, dx, pp, ws, ci.ix.getD k 0, rfl, hat, k1, t, ?_⟩
        obtain ⟨R3, x3⟩ := R2.write (H' := SlX.slH H1 q ci.C dx (SlX.putS (ci.ix.getD k 0) y0 ws)) (d' := .obj c fs') hi hq (fun a ha => by
            rw [hfp] at ha
            exact SlX.slH_ne (fun z => ha (by rw [z]; simp)) (fun z => ha (by rw [z]; simp))) (by
            rw [hfp]
            refine ⟨dx, setAtV vs k y0, rfl, ⟨.xd [], ?_⟩, ⟨ci, hci, setAtV_len hk hlen hkv, hne, ?_⟩, rl'⟩
            · unfold SlX.slH
              rw [upd_ne hne, upd_same]
            · rw [if_pos hsl]
              refine ⟨_, SlX.slH_slt hne, fun j v hj => ?_⟩
              by_cases hjk : j = k
              · subst hjk
                have : v = y0 := by
                  unfold setAtV at hj
                  split at hj
                  · rename_i hlt
                    rw [List.getElem?_set_self hlt] at hj
                    exact (Option.some.inj hj).symm
                  · have : j = vs.length := by omega
                    rw [this, List.getElem?_append_right (Nat.le_refl _), Nat.sub_self] at hj
                    exact (Option.some.inj hj).symm
                rw [this]
                exact SlX.putS_get _ _ _
              · have hj2 : vs[j]? = some v := by
                  unfold setAtV at hj
                  split at hj
                  · rwa [List.getElem?_set_ne (Ne.symm hjk)] at hj
                  · by_cases hlt : j < vs.length
                    · rwa [List.getElem?_append_left hlt] at hj
                    · rw [List.getElem?_append_right (by omega)] at hj
                      have : j - vs.length = 0 := by
                        cases hh : j - vs.length with
                        | zero => rfl
                        | succ m => rw [hh] at hj; simp at hj
                      omega
                have hjl : j < ci.names.length := Nat.lt_of_lt_of_le (List.getElem?_eq_some_iff.mp hj2).1 hlen
                exact (SlX.putS_ne fun z => hjk (ok.inj hsl j k hjl hk z)).mpr (hws j v hj2))
        exact g3.nx (e2.trans x3) R3
      · exact g2.elim
    · exact g2.elim
  | false =>
    obtain ⟨k1, k2⟩ := ok.pl hsl
    refine (ps_fld (pe_var hN hv hd hcd) he hs).cons fun D σ H ⟨r, F, fp, R, g⟩ => ?_
    rw [evS] at g
    obtain ⟨r0, F0, fp0, R0, g0⟩ := stepS R (.refl ..) g
    refine ⟨r0, F0, fp0, R0, g0.mono fun y0 H1 ⟨va, r1, F1, fp1, f1, A1, g1⟩ => ?_⟩
    obtain ⟨⟨d, r2⟩, ht, g2⟩ := g1.orOut
    obtain ⟨F2, R2, hr, gw, hl⟩ := Vl.take_ok A1.R A1.p ht
    have e2 := gw.ext (fun a ha => (A1.f (.refl ..) a ha).symm) A1.e
    dsimp only at g2
    split at g2
    · rename_i d2 fs hi
      split at g2
      · rename_i hcd2
        subst hcd2
        obtain ⟨fs', hset, g3⟩ := g2.orOut
        obtain ⟨q, hq, ho, hn⟩ := R2.own i _ hi
        obtain ⟨dx, vs, hfp, ⟨od, hod⟩, ⟨ci', hci, hlen, hne, hat⟩, rl⟩ := ho
        have hci' : cls.l[c]? = some ci' := hci
        rw [h1] at hci'
        cases hci'
        rw [if_neg (by rw [hsl]; decide)] at hat
        obtain ⟨rl', hkv⟩ := setAt_rep rl hr hset
        have few := ok.few
        refine ⟨.ref q, hq, q, ci.C, dx, _, rfl, hat.1, k1, k2 f (List.mem_of_getElem? hf), by rw [List.length_zip]; omega, ?_⟩
        obtain ⟨R3, x3⟩ := R2.write (H' := upd H1 q (.ins ci.C dx (putF f y0 (ci.names.zip vs)))) (d' := .obj c fs') hi hq (fun a ha => by
            rw [hfp] at ha
            exact upd_ne (fun z => ha (by rw [z]; simp))) (by
            rw [hfp]
            refine ⟨dx, setAtV vs k y0, rfl, ⟨.own q, by rw [upd_ne hne]; exact hat.2⟩, ⟨ci, hci, setAtV_len hk hlen hkv, hne, ?_⟩, rl'⟩
            rw [if_neg (by rw [hsl]; decide), putF_zip ok.nd hf hkv hlen]
            exact ⟨upd_same, by rw [upd_ne hne]; exact hat.2⟩)
        exact g3.nx (e2.trans x3) R3
      · exact g2.elim
    · exact g2.elim
/-- name.f += n -/
theorem ps_aflV {i c k : Nat} {n : Int} {kk : Nat} {names : List Str} {pn p2 p3 pos : Pos} (h : ObjC X.K cls.l c names) (hns : ∀ ci, cls.l[c]? = some ci → ci.slotted = false) (hf : names[k]? = some f) (hN : X.N[i]? = some y) (hv : Vis X.env.scope y)
    (hd : (y == ("__debug__" : Str)) = false := by decide) (hcd : (y == ("__classdict__" : Str)) = false := by decide) :
    PS X (.AugAssign (.Attribute (.Name y pn) f p2) .Add (.Constant (.int n) kk p3) pos) (tSt X cls exc W G C (.afl i c k .add (.cst (.int n)))) := by
  obtain ⟨ci, h1, ok, h3⟩ := h.ex
  subst h3
  have hk : k < ci.names.length := (List.getElem?_eq_some_iff.mp hf).1
  have hsl := hns ci h1
  obtain ⟨k1, k2⟩ := ok.pl hsl
  refine (ps_fldaug (pe_var hN hv hd hcd) pe_int in_add).cons fun D σ H ⟨r, F, fp, R, g⟩ => ?_
  rw [evS, evE] at g
  have g1 : GdS (zx X cls exc) ⟨r, fp, F, H⟩ W D (match r[i]?, Vl.get r (.fro (.int n)) with
    | some (some (true, .obj d fs)), some (.int b) => match fs[k]? with
      | some (.int a) => if c = d then (match binD .add (.int a) (.int b) with
        | some (.fro z) => orOut (setAt fs k z) fun fs' => .nx (r.set i (some (true, .obj d fs')))
        | _ => .bad) else .bad
      | _ => .bad
    | _, _ => .bad) := g
  split at g1
  · rename_i d2 fs b hi hb
    have hb' : b = n := by cases hb; rfl
    subst hb'
    split at g1
    · rename_i aa hfk
      split at g1
      · rename_i hcd2
        subst hcd2
        have g2 : GdS (zx X cls exc) ⟨r, fp, F, H⟩ W D (orOut (setAt fs k (.int (aa + b))) fun fs' => .nx (r.set i (some (true, .obj c fs')))) := g1
        obtain ⟨fs', hset, g3⟩ := g2.orOut
        obtain ⟨q, hq, ho, hn⟩ := R.own i _ hi
        obtain ⟨dx, vs, hfp, ⟨od, hod⟩, ⟨ci', hci, hlen, hne, hat⟩, rl⟩ := ho
        have hci' : cls.l[c]? = some ci' := hci
        rw [h1] at hci'
        cases hci'
        rw [if_neg (by rw [hsl]; decide)] at hat
        obtain ⟨v, hv1, hv2⟩ := rl.get hfk
        cases hv2
        obtain ⟨rl', hkv⟩ := setAt_rep rl (.int (aa + b)) hset
        have few := ok.few
        refine ⟨.ref q, hq, q, ci.C, dx, _, .int aa, rfl, hat.1, k1, k2 f (List.mem_of_getElem? hf), zip_lookup ok.nd hf hv1, aa, b, rfl, rfl, dx, _, hat.1, by rw [List.length_zip]; omega, ?_⟩
        obtain ⟨R3, x3⟩ := R.write (H' := upd H q (.ins ci.C dx (putF f (.int (aa + b)) (ci.names.zip vs)))) (d' := .obj c fs') hi hq (fun a ha => by
            rw [hfp] at ha
            exact upd_ne (fun z => ha (by rw [z]; simp))) (by
            rw [hfp]
            refine ⟨dx, setAtV vs k (.int (aa + b)), rfl, ⟨.own q, by rw [upd_ne hne]; exact hat.2⟩, ⟨ci, hci, setAtV_len hk hlen hkv, hne, ?_⟩, rl'⟩
            rw [if_neg (by rw [hsl]; decide), putF_zip ok.nd hf hkv hlen]
            exact ⟨upd_same, by rw [upd_ne hne]; exact hat.2⟩)
        exact g3.nx x3 R3
      · exact g1.elim
    · exact g1.elim
  · exact g1.elim
end
end VL
end
section
set_option maxHeartbeats 4000000
/-! V37N: X(e, ..) of a class with an own __init__; the new error's context is None. -/
namespace L2
open PySem PySem.Spec PyProof.Rows
section
variable {X : Cx} {ta : TA} {e : Expr} {es : List Expr} {p pos : Pos}
theorem pmk_oexN {CX : CXT} {x : Str} {C fI : Addr} {k : Nat} {fd : FuncData} {ps : List Str} {sp : Sp} {ds : List Value} {dvs : List V} (T : OexC X.K C) (iC : PySem.W.findIn X.K (.ref C) "__init__" = some (some (.ref fI))) (tI : PySem.W.typeIn X.K (.ref fI) = some (.type "function"))
    (F1 : FnOk X.prog X.w X.K X.mg X.base CX k fI fd ps sp) (hr : Room (k + 1) X.A) (hb : Binds X.K fd ps ds) (hd : Vals dvs ds) (hx : Passes CX X (fun _ _ _ => False)) (hg : Gl X x) (hm : X.mg x = some (.ref C)) (ha : PA X (e :: es) ta)
    (hdb : (x == ("__debug__" : Str)) = false := by decide) (he : starEach (e :: es) X.env = (false, eval e X.env) :: starEach es X.env := by rfl) (hpl : (backTo pos (starEach es X.env)).any (·.1) = false := by rfl) :
    L2N.PMk X (.Call (.Name x p) (e :: es) [] pos) (tMkO C sp dvs ta) := by
  intro pins s σ H Q I h
  refine wpAny_Call_Name_kw (ld_glob I hg hm ?_ hdb)
  refine PySem.W.callWith_K (h₀ := X.base) I.ok.mod.kin T.kC (thn (ha.run pos pins s σ H _ I h) fun us ⟨hp, g, dr, tk, os⟩ ⟨vs, H1, I1, r1, hz, q1⟩ => ⟨I1.kIn, ?_⟩) he hpl
  obtain ⟨nm, q, N, bs, bm, sn, sub, ab, col, dd, k0, k1, k2, k3, k5, hC, hbm⟩ := T.cls
  -- the new object stands at n
  generalize hN : hp.objs.size + 1 = n
  have hs1 : hp.objs.size ≤ n := by omega
  have keep : ∀ b o, hp.get? b = some o → ((hp.push (PySem.W.kdv_tup us)).push (PySem.HandSPX.excO C hp.objs.size)).get? b = some o := fun b o z => Heap.get?_push_of_some _ (Heap.get?_push_of_some _ z)
  have at_n : ((hp.push (PySem.W.kdv_tup us)).push (PySem.HandSPX.excO C hp.objs.size)).get? n = some (PySem.HandSPX.excO C hp.objs.size) := by subst hN; heap_get
  have I2 : Inv X pins σ (upd H1 n (exo n C none)) ⟨(hp.push (PySem.W.kdv_tup us)).push (PySem.HandSPX.excO C hp.objs.size), g, dr, tk, os⟩ := I1.laid (t' := tk) keep hs1 (exo_ok at_n)
  have hq := q1 n (I1.hok.fresh hs1)
  have r2 : Vals (V.ref n :: (vs ++ dvs)) (Value.ref n :: (us ++ ds)) := .cons rfl (r1.append hd)
  have hl : ((Value.ref n :: us) ++ ds).length = ps.length := r2.length.symm.trans (F1.len _ _ _ _ hq)
  have run := F1.run (X.A.under (.builtin "type.__call__" ⟨.ref C :: us, []⟩)) X.stack _ _ ⟨Value.ref n :: us, []⟩ (Value.ref n :: (us ++ ds)) _ _ (fun _ _ _ => False) (hr.make C us []) (I2.env0.make C us []) (hb _ (Value.ref n :: us) I2.kIn hl) r2 hq
  subst hN
  refine wpAny_call (PySem.HandSPX.call_own F.excBase_ValueError (fun Y => PySem.HandSPX.refsVE_contains Y bm hbm) (I1.kIn _ _ hC) (PySem.W.looks_findIn I1.kIn iC) (fun self => PySem.W.bind_fn I1.kIn self tI) (by show us.length ≤ sizeLine; rw [← Paired.length r1, sizeLine_eq]; omega)
    (codeAny_mono run fun r s' hq' => ?_))
  match r, hq' with
  | .error er, hq' => exact hx pins σ _ _ er s' I2 hq'
  | .ok (.ret u), hq' =>
    obtain ⟨v, H2, os2, bare2, un2, hok2, rv, ev, d, fs, ea, ed, hd1, q2⟩ := hq'
    subst ev
    obtain ⟨h2, g2, d2, t2, os'⟩ := s'
    obtain ⟨t0, G0, J, kG, ge, hoe, na⟩ := mk_end0 (d2 := d2) (t2 := t2) I1 hs1 keep un2 hok2 os2 bare2 ea ed hd1
    exact ⟨rv, _, _, _, ⟨G0, g2, d2, t2, os'⟩, _, .ref C, some d, rfl, J, kG, ge, hoe, ⟨rfl, rfl, fun ws z => by cases z; rfl⟩, rfl, rfl, na, rfl, bare2, raises_own T.exC T.tyC, q2⟩
end
end L2
end
section
/-! V38: the written part's facts as Bools; errors whose __init__ stores its arguments. -/
namespace VL
open PySem PySem.Spec PyProof.Rows L2
structure FldC (K : PySem.W.Frag) (exc : List (Addr × List Str)) (cs : List Nat) (f : Str) (k : Nat) : Prop where
  ex : ∀ c ∈ cs, ∀ CA names, exc[c]? = some (CA, names) → XfC K CA ∧ PySem.W.findIn K (.ref CA) f = some none ∧ names[k]? = some f
theorem oexB_ok {K : PySem.W.Frag} {C : Addr} (h : oexB K C = true) : OexC K C := by
  unfold oexB at h
  rw [Bool.and_eq_true] at h
  obtain ⟨h0, h⟩ := h
  simp only [Bool.and_eq_true, decide_eq_true_eq] at h
  obtain ⟨h1, h2, h3, h4⟩ := h
  refine ⟨?_, h1, h2, h3, h4⟩
  split at h0
  · rename_i dd cd sl hk
    split at h0
    · rename_i C' bm k0 k1 k2 k3 n k5 hm hs
      simp only [Bool.and_eq_true, decide_eq_true_eq, Bool.not_eq_true'] at h0
      obtain ⟨q1, q2, q3, q4, q5⟩ := h0
      subst q1 q2
      obtain ⟨nm, bs, mro, ns, qn, hd, sn, sub, ab, col, del⟩ := cd
      dsimp only at hm q3 q4
      subst hm q3 q4
      obtain ⟨l⟩ := sl
      have hl : l = [k0, k1, k2, k3, some (.builtin "ValueError.__new__"), k5] := hs
      subst hl
      exact ⟨nm, qn, ns, bs, bm, sn, sub, ab, col, dd, k0, k1, k2, k3, k5, hk, q5⟩
    · cases h0
  · cases h0
/-- self.f = v of a new error, one field or two -/
def sp1 (C : Addr) (f : Str) : Sp := fun vs H Q _ => ∃ a v, vs = [.ref a, v] ∧ H a = some (exo a C none) ∧ ∀ dx, H dx = none → dx ≠ a → Q .non (upd (upd H dx (exd dx [(f, v)])) a (exo a C (some dx)))
def sp2 (C : Addr) (f g : Str) : Sp := fun vs H Q _ => ∃ a v w, vs = [.ref a, v, w] ∧ H a = some (exo a C none) ∧ ∀ dx, H dx = none → dx ≠ a → Q .non (upd (upd (upd H dx (exd dx [(f, v)])) a (exo a C (some dx))) dx (exd dx [(g, w), (f, v)]))
section
variable {X : Cx} {P : Program} {w : World} {K : PySem.W.Frag} {mg : Str → Option Value} {base : Heap} {exc : List (Addr × List Str)} {x f g : Str} {C fI : Addr} {fd : FuncData} {params : Arguments} {body : List Stmt} {scope : Scope} {q : Str}
theorem del_back {H H2 : Hp} {a d : Addr} {fs : List (Str × V)} (ha : H a = none) (hda : d ≠ a) (h : ∀ b, b ≠ a → b ≠ d → H2 b = H b) : upd (del H2 a) d (.xd fs) = upd H d (.xd fs) := by
  funext b
  by_cases hb : b = d
  · rw [hb, upd_same, upd_same]
  · rw [upd_ne hb, upd_ne hb]
    by_cases hba : b = a
    · rw [hba, del_same, ha]
    · rw [del_ne hba]
      exact h b hba hb
theorem pass_false {X : Cx} : Passes (L2N.CX X.prog X.w) X (fun _ _ _ => False) := fun _ _ _ _ _ _ _ ⟨_, _, _, _, _, _, _, _, _, _, _, _, z⟩ => z.elim
theorem ok_init1 {y z : Str} {p1 p2 p3 pos : Pos} (T : OexC K C) (hno : PySem.W.findIn K (.ref C) f = some none) (F : FunD K x q params body scope [] [] fI fd) (S : FnScope [y, z] [y, z] scope)
    (hb : body = [.Assign [.Attribute (.Name y p1) f p2] (.Name z p3) pos])
    (hv0 : ∀ (cdv : Value) (A : Around) (outer : List Env) (s : Shared) (H : Hp) (E : XK), PE (cxOf (L2N.CX P w) P w K mg base [y, z] q scope fI cdv A outer s H E) (.Name y p1) (tVar 0) ∧ PE (cxOf (L2N.CX P w) P w K mg base [y, z] q scope fI cdv A outer s H E) (.Name z p3) (tVar 1)) :
    FnOk P w K mg base (L2N.CX P w) 1 fI fd [y, z] (sp1 C f) := by
  refine F.ok S (fun vs H Q E h => by obtain ⟨a, v, rfl, _⟩ := h; rfl) fun cdv A outer s H vs Q E hr h => ?_
  subst hb
  obtain ⟨k1, k2⟩ := hv0 cdv A outer s H E
  refine ⟨_, pss_one (ps_ost k1 k2), ?_⟩
  obtain ⟨a, v, rfl, ha, q⟩ := h
  exact ⟨v, rfl, .ref a, rfl, a, C, rfl, T, hno, .inl ⟨ha, fun dx h1 h2 => q dx h1 h2⟩⟩
theorem ok_init2 {y z u : Str} {p1 p2 p3 p4 p5 p6 pos pos2 : Pos} (T : OexC K C) (hno : PySem.W.findIn K (.ref C) f = some none) (hno2 : PySem.W.findIn K (.ref C) g = some none) (F : FunD K x q params body scope [] [] fI fd) (S : FnScope [y, z, u] [y, z, u] scope)
    (hb : body = [.Assign [.Attribute (.Name y p1) f p2] (.Name z p3) pos, .Assign [.Attribute (.Name y p4) g p5] (.Name u p6) pos2])
    (hv0 : ∀ (cdv : Value) (A : Around) (outer : List Env) (s : Shared) (H : Hp) (E : XK), (PE (cxOf (L2N.CX P w) P w K mg base [y, z, u] q scope fI cdv A outer s H E) (.Name y p1) (tVar 0) ∧ PE (cxOf (L2N.CX P w) P w K mg base [y, z, u] q scope fI cdv A outer s H E) (.Name z p3) (tVar 1)) ∧ PE (cxOf (L2N.CX P w) P w K mg base [y, z, u] q scope fI cdv A outer s H E) (.Name y p4) (tVar 0) ∧ PE (cxOf (L2N.CX P w) P w K mg base [y, z, u] q scope fI cdv A outer s H E) (.Name u p6) (tVar 2)) :
    FnOk P w K mg base (L2N.CX P w) 1 fI fd [y, z, u] (sp2 C f g) := by
  refine F.ok S (fun vs H Q E h => by obtain ⟨a, v, w, rfl, _⟩ := h; rfl) fun cdv A outer s H vs Q E hr h => ?_
  subst hb
  obtain ⟨⟨k1, k2⟩, k3, k4⟩ := hv0 cdv A outer s H E
  refine ⟨_, pss_cons (ps_ost k1 k2) (pss_one (ps_ost k3 k4)), ?_⟩
  obtain ⟨a, v, w, rfl, ha, q⟩ := h
  refine ⟨v, rfl, .ref a, rfl, a, C, rfl, T, hno, .inl ⟨ha, fun dx h1 h2 => ?_⟩⟩
  exact ⟨w, rfl, .ref a, rfl, a, C, rfl, T, hno2, .inr ⟨dx, [(f, v)], upd_same, by rw [upd_ne h2, upd_same], by simp, q dx h1 h2⟩⟩
/-- a reading weakened -/
def taW (ta : TA) : TA := fun σ H Q' => ∃ Q : List V → Hp → Prop, ta σ H Q ∧ ∀ vs H, Q vs H → Q' vs H
theorem pa_w {es : List Expr} {ta : TA} (ha : PA X es ta) : PA X es (taW ta) := ⟨fun pos pins s σ H Q' I ⟨Q, h, m⟩ => thn (ha.run pos pins s σ H Q I h) fun us s' ⟨vs, H', I', r, q⟩ => ⟨vs, H', I', r, m _ _ q⟩⟩
theorem exd_new {H : Hp} {a d : Addr} (h : H a = none) (hd : (upd H a (exo a C none)) d = none) : H d = none ∧ d ≠ a := by
  have hne : d ≠ a := fun z => by rw [z, upd_same] at hd; cases hd
  rw [upd_ne hne] at hd
  exact ⟨hd, hne⟩
theorem excN_1 {c : Nat} {ps : List Str} (T : OexC K C) (iC : PySem.W.findIn K (.ref C) "__init__" = some (some (.ref fI))) (tI : PySem.W.typeIn K (.ref fI) = some (.type "function")) (hx : exc[c]? = some (C, [f])) (hm : mg x = some (.ref C)) (hb : Binds K fd ps [])
    (F : FnOk P w K mg base (L2N.CX P w) 1 fI fd ps (sp1 C f)) (hdb : (x == ("__debug__" : Str)) = false := by decide) : ExcN P w K mg base exc c 1 x := by
  refine ⟨C, [f], hx, rfl, fun X e1 e2 e3 e4 e5 hg k hr e es ta p pos ha he hpl => ?_⟩
  subst e1 e2 e3 e4 e5
  intro pins s σ H Q I h
  refine pmk_oexN (CX := L2N.CX X.prog X.w) T iC tI F (hr.mono (by omega)) hb .nil pass_false hg hm (pa_w ha) hdb he hpl pins s σ H Q I ⟨_, h, fun vs H1 ⟨hl, q⟩ => ⟨by rw [hl]; simp, fun a hna => ?_⟩⟩
  match vs, hl with
  | [v], _ =>
    refine ⟨a, v, rfl, upd_same, fun dx h1 h2 => ⟨rfl, dx, [(f, v)], upd_same, by rw [upd_ne h2, upd_same], ?_, ?_⟩⟩
    · rw [upd_ne h2] at h1; exact h1
    · rw [del_back hna h2 fun b h3 h4 => by rw [upd_ne h3, upd_ne h4, upd_ne h3]]
      refine q dx _ (by rw [upd_ne h2] at h1; exact h1) fun k g v' hk hv => ?_
      match k, hk, hv with
      | 0, hk, hv =>
        have e1 : f = g := by simpa using hk
        have e2 : v = v' := by simpa using hv
        subst e1 e2
        simp [List.lookup]
      | k + 1, hk, hv => simp at hk
theorem excN_2 {c : Nat} {ps : List Str} (T : OexC K C) (iC : PySem.W.findIn K (.ref C) "__init__" = some (some (.ref fI))) (tI : PySem.W.typeIn K (.ref fI) = some (.type "function")) (hx : exc[c]? = some (C, [f, g])) (hm : mg x = some (.ref C)) (hb : Binds K fd ps []) (hfg : (f == g) = false)
    (F : FnOk P w K mg base (L2N.CX P w) 1 fI fd ps (sp2 C f g)) (hdb : (x == ("__debug__" : Str)) = false := by decide) : ExcN P w K mg base exc c 2 x := by
  refine ⟨C, [f, g], hx, rfl, fun X e1 e2 e3 e4 e5 hg k hr e es ta p pos ha he hpl => ?_⟩
  subst e1 e2 e3 e4 e5
  intro pins s σ H Q I h
  refine pmk_oexN (CX := L2N.CX X.prog X.w) T iC tI F (hr.mono (by omega)) hb .nil pass_false hg hm (pa_w ha) hdb he hpl pins s σ H Q I ⟨_, h, fun vs H1 ⟨hl, q⟩ => ⟨by rw [hl]; simp, fun a hna => ?_⟩⟩
  match vs, hl with
  | [v, u], _ =>
    refine ⟨a, v, u, rfl, upd_same, fun dx h1 h2 => ⟨rfl, dx, [(g, u), (f, v)], by rw [upd_ne (Ne.symm h2), upd_same], upd_same, ?_, ?_⟩⟩
    · rw [upd_ne h2] at h1; exact h1
    · rw [del_back hna h2 fun b h3 h4 => by rw [upd_ne h4, upd_ne h3, upd_ne h4, upd_ne h3]]
      refine q dx _ (by rw [upd_ne h2] at h1; exact h1) fun k g' v' hk hv => ?_
      match k, hk, hv with
      | 0, hk, hv =>
        have e1 : f = g' := by simpa using hk
        have e2 : v = v' := by simpa using hv
        subst e1 e2
        simp [List.lookup, hfg]
      | 1, hk, hv =>
        have e1 : g = g' := by simpa using hk
        have e2 : u = v' := by simpa using hv
        subst e1 e2
        simp [List.lookup]
      | k + 2, hk, hv => simp at hk
/-! ### classes -/
def sclB (K : PySem.W.Frag) (C : Addr) : Bool := PySem.W.plainGet K C Str.empty && (PySem.W.isClsIn K C && (PySem.W.plainOver K C && decide (PySem.W.findIn K (.ref C) "__setattr__" = some (some (.builtin "object.__setattr__")))))
theorem sclB_ok (h : sclB K C = true) : SlX.SCls K C := by
  unfold sclB at h
  simp only [Bool.and_eq_true, decide_eq_true_eq] at h
  exact ⟨h.1, h.2.1, h.2.2.1, h.2.2.2⟩
def slotB (K : PySem.W.Frag) (C : Addr) (f : Str) (i : Nat) : Bool := match PySem.W.findIn K (.ref C) f with
  | some (some (.ref p)) => decide (PySem.W.specialIn K (.ref p) "__get__" = some (some (.builtin "member_descriptor.__get__"))) && (decide (PySem.W.takesIn K (.ref p) = some true) && (decide (PySem.W.typeIn K (.ref p) = some (.type "member_descriptor")) && (decide (PySem.W.slotIn K p C = some i) && decide (i < 1000))))
  | _ => false
theorem slotB_ok {i : Nat} (h : slotB K C f i = true) : ∃ p, SlX.Slot1 K C f p i := by
  unfold slotB at h
  split at h
  · rename_i p hp
    simp only [Bool.and_eq_true, decide_eq_true_eq] at h
    exact ⟨p, hp, h.1, h.2.1, h.2.2.1, h.2.2.2.1, h.2.2.2.2⟩
  · cases h
def slotsB (K : PySem.W.Frag) (C : Addr) (ix : List Nat) : List Str → Nat → Bool
  | [], _ => true
  | f :: fs, i => slotB K C f (ix.getD i 0) && slotsB K C ix fs (i + 1)
theorem slotsB_ok {ix : List Nat} : ∀ {fs : List Str} {i : Nat}, slotsB K C ix fs i = true → ∀ (k : Nat) (f : Str), fs[k]? = some f → ∃ p, SlX.Slot1 K C f p (ix.getD (i + k) 0)
  | [], _, _, k, f, hk => by simp at hk
  | g :: fs, i, h, 0, f, hk => by
    unfold slotsB at h
    rw [Bool.and_eq_true] at h
    have : g = f := by simpa using hk
    subst this
    exact slotB_ok h.1
  | g :: fs, i, h, k + 1, f, hk => by
    unfold slotsB at h
    rw [Bool.and_eq_true] at h
    have := slotsB_ok h.2 k f (by simpa using hk)
    rwa [Nat.add_assoc, Nat.add_comm 1 k] at this
/-- places, each another one -/
def injB (n : Nat) (ix : List Nat) : Bool := (List.range n).all fun i => (List.range n).all fun j => ix.getD i 0 != ix.getD j 0 || i == j
theorem injB_ok {n : Nat} {ix : List Nat} (h : injB n ix = true) : ∀ i j, i < n → j < n → ix.getD i 0 = ix.getD j 0 → i = j := fun i j hi hj e => by
  have := List.all_eq_true.mp (List.all_eq_true.mp h i (List.mem_range.mpr hi)) j (List.mem_range.mpr hj)
  rw [e] at this
  simpa using this
def clzB (K : PySem.W.Frag) (ci : Zc) : Bool := (if ci.slotted then sclB K ci.C && (slotsB K ci.C ci.ix ci.names 0 && injB ci.names.length ci.ix) else (PySem.W.plainGet K ci.C Str.empty && (PySem.W.hasDictIn K ci.C && (PySem.W.plainOver K ci.C && decide (PySem.W.findIn K (.ref ci.C) "__setattr__" = some (some (.builtin "object.__setattr__")))))) && ci.names.all fun f => decide (PySem.W.findIn K (.ref ci.C) f = some none)) && (decide ci.names.Nodup && decide (ci.names.length < 100))
theorem clzB_ok {ci : Zc} (h : clzB K ci = true) : ClsOk K ci := by
  unfold clzB at h
  rw [Bool.and_eq_true, Bool.and_eq_true] at h
  obtain ⟨h1, h2, h3⟩ := h
  refine ⟨fun hs => ?_, fun hs => ?_, of_decide_eq_true h2, fun hs => ?_, of_decide_eq_true h3⟩
  · rw [if_neg (by rw [hs]; decide)] at h1
    simp only [Bool.and_eq_true, decide_eq_true_eq, List.all_eq_true] at h1
    exact ⟨⟨h1.1.1, h1.1.2.1, h1.1.2.2.1, h1.1.2.2.2⟩, fun f hf => h1.2 f hf⟩
  · rw [if_pos hs, Bool.and_eq_true, Bool.and_eq_true] at h1
    refine ⟨sclB_ok h1.1, fun k f hf => ?_⟩
    have := slotsB_ok h1.2.1 k f hf
    rwa [Nat.zero_add] at this
  · rw [if_pos hs, Bool.and_eq_true, Bool.and_eq_true] at h1
    exact injB_ok h1.2.2
/-! ### errors -/
theorem catB_ok {es : List (Addr × List Str)} {CA : Addr} {cs : List Nat} : ∀ {n : Nat}, catB K es CA cs n = true → ∀ c, c < n → ∀ CB names, es[c]? = some (CB, names) → PySem.W.exmOne K (.ref CB) (.ref CA) = some (cs.contains c)
  | n + 1, h, c, hc, CB, names, he => by
    unfold catB at h
    rw [Bool.and_eq_true] at h
    by_cases hn : c = n
    · subst hn
      have h2 := h.2
      rw [he] at h2
      exact of_decide_eq_true h2
    · exact catB_ok h.1 c (by omega) CB names he
theorem catC_of {es : List (Addr × List Str)} {CA : Addr} {cs : List Nat} (hm : mg x = some (.ref CA)) (h : catB K es CA cs es.length = true) : CatC K mg es x cs := ⟨CA, hm, fun c CB names he => catB_ok h c (List.getElem?_eq_some_iff.mp he).1 CB names he⟩
theorem excCB_ok {Da : Addr} (h : excCB K Da = true) : L2.ExcC K Da := by
  unfold excCB at h
  simp only [Bool.and_eq_true, decide_eq_true_eq] at h
  exact ⟨h.1, h.2.1, h.2.2.1, h.2.2.2.1, h.2.2.2.2.1, h.2.2.2.2.2.1, h.2.2.2.2.2.2.1, h.2.2.2.2.2.2.2⟩
def isxB (K : PySem.W.Frag) (es : List (Addr × List Str)) (CA : Addr) (cs : List Nat) : Bool := cs.all fun c => match es[c]? with
  | some (CB, _) => excCB K CB && decide (PySem.W.kitOne K (.ref CB) (.ref CA) = some true)
  | none => true
theorem isxC_of {es : List (Addr × List Str)} {CA : Addr} {cs : List Nat} (hm : mg x = some (.ref CA)) (h : isxB K es CA cs = true) : IsxC K mg es x cs := ⟨CA, hm, fun c hc CB names he => by
  have := List.all_eq_true.mp h c hc
  rw [he] at this
  dsimp only at this
  rw [Bool.and_eq_true] at this
  exact ⟨excCB_ok this.1, of_decide_eq_true this.2⟩⟩
theorem fldC_of {es : List (Addr × List Str)} {cs : List Nat} {k : Nat} (h : fldCB K es cs f k = true) : FldC K es cs f k := ⟨fun c hc CB names he => by
  have := List.all_eq_true.mp h c hc
  rw [he] at this
  simp only [Bool.and_eq_true, decide_eq_true_eq] at this
  exact ⟨xfB_ok this.1, this.2.1, this.2.2⟩⟩
/-! ### a written dict of tuples -/
def intsB : List Int → List Value → Bool
  | [], [] => true
  | n :: ns, .int m _ :: vs => decide (n = m) && intsB ns vs
  | _, _ => false
theorem intsB_ok : ∀ {ns : List Int} {vs : List Value}, intsB ns vs = true → Vals (ns.map V.int) vs
  | [], [], _ => .nil
  | n :: ns, .int m t :: vs, h => by
    unfold intsB at h
    rw [Bool.and_eq_true, decide_eq_true_eq] at h
    obtain ⟨rfl, h2⟩ := h
    exact .cons ⟨t, rfl⟩ (intsB_ok h2)
  | [], _ :: _, h => by cases h
  | n :: ns, [], h => by cases h
  | n :: ns, .none :: vs, h => by cases h
  | n :: ns, .bool _ :: vs, h => by cases h
  | n :: ns, .str _ _ :: vs, h => by cases h
  | n :: ns, .ref _ :: vs, h => by cases h
  | n :: ns, .float _ _ :: vs, h => by cases h
  | n :: ns, .bytes _ _ :: vs, h => by cases h
  | n :: ns, .type _ :: vs, h => by cases h
  | n :: ns, .builtin _ :: vs, h => by cases h
  | n :: ns, .ellipsis :: vs, h => by cases h
  | n :: ns, .notImplemented :: vs, h => by cases h
def ktabB (K : PySem.W.Frag) : List (Str × List Int) → List DictEntry → Bool
  | [], [] => true
  | (k, ns) :: r, e :: es => (match e.key, e.val with
    | .str z _, .ref t => decide (z = k) && (match K.lookup t with
      | some ⟨.type "tuple", none, .seq its _, _⟩ => decide (its.size ≤ sizeLine) && intsB ns its.toList
      | _ => false)
    | _, _ => false) && ktabB K r es
  | _, _ => false
theorem ktabB_ok : ∀ {tbl : List (Str × List Int)} {es : List DictEntry}, ktabB K tbl es = true → KTabE K tbl es
  | [], [], _ => .nil
  | [], _ :: _, h => by cases h
  | _ :: _, [], h => by cases h
  | (k, ns) :: r, e :: es, h => by
    unfold ktabB at h
    rw [Bool.and_eq_true] at h
    obtain ⟨h1, h2⟩ := h
    split at h1
    · rename_i z tk t hk hv
      rw [Bool.and_eq_true, decide_eq_true_eq] at h1
      obtain ⟨rfl, h3⟩ := h1
      split at h3
      · rename_i its n sl hl
        rw [Bool.and_eq_true, decide_eq_true_eq] at h3
        exact .cons hk hv hl rfl rfl rfl h3.1 (intsB_ok h3.2) (ktabB_ok h2)
      · cases h3
    · cases h1
def kdicB (K : PySem.W.Frag) (a : Addr) (tbl : List (Str × List Int)) : Bool := match K.lookup a with
  | some ⟨_, _, .dict es _, _⟩ => ktabB K tbl es.toList
  | _ => false
theorem ktab_of {w : World} {a : Addr} {tbl : List (Str × List Int)} (hm : mg x = some (.ref a)) (hd : ∃ es n, KDict K w a es n) (h : kdicB K a tbl = true) : KTab K w mg x tbl := by
  obtain ⟨es, n, hd⟩ := hd
  refine ⟨a, es, n, hm, hd, ktabB_ok ?_⟩
  unfold kdicB at h
  rw [hd.at_] at h
  exact h
end
end VL
end
section
/-! N1: the law's draws. -/
namespace VL
open PySem PySem.Spec PyProof.Rows L2
/-- the cell that is drawn from -/
def cellN (cells : List Int) (ix : Int) : Int := (cells ++ [0]).getD (ix.fmod (max 1 cells.length : Nat)).toNat 0
def nextOk (cells : List Int) (ix b : Int) : Bool := decide (0 < b) && decide (b < 1073741824) && decide (0 ≤ ix) && decide (cells.length < 1000)
/-- _law_next: the number, the list behind -/
def nextN (st : Int) (cells : List Int) (ix b : Int) : Int × Int × List Int × Int :=
  let c := cellN cells ix
  if c ≥ 1000000000000000000 then (c.fmod b, st, cells.set (ix.fmod (cells.length : Int)).toNat (c.fdiv b), ix)
  else
    let st' := (st * 48271 + c * 69621 + 11).fmod 2147483647
    ((st'.fdiv 7).fmod b, st', cells, ix + 1)
def nextS : Sem
  | [.rng p st cells ix, .int b] => if nextOk cells ix b then .ret false (.int (nextN st cells ix b).1) [.rng p (nextN st cells ix b).2.1 (nextN st cells ix b).2.2.1 (nextN st cells ix b).2.2.2] else .bad
  | _ => .bad
def fd_next : Fd := ⟨[true], 2, nextS⟩
end VL
end
section
/-! V39: the law's own def. -/
namespace VL
open PySem PySem.Spec PyProof.Rows L2
def mixN (ns : List Int) (seed : Int) : Int := ns.foldl (fun st c => (st * 48271 + c.fmod 2147483629 + 1).fmod 2147483647) seed
def spMix (K : PySem.W.Frag) : Sp := fun vs H Q _ => ∃ (a : Addr) (ns : List Int) (seed : Int), vs = [.ref a, .int seed] ∧ SqL K H a (ns.map V.int) ∧
  ∀ q p, H q = none → upd H q (.lst (ns.map V.int)) p = none → Q (.ref p) (upd (upd H q (.lst (ns.map V.int))) p (.lst [.int (mixN ns seed), .ref q, .int 0, .int 14]))
/-- the law: True, whatever the script -/
def spLaw (K : PySem.W.Frag) : Sp := fun vs H Q _ => ∃ (a : Addr) (ns : List Int), vs = [.ref a] ∧ SqL K H a (ns.map V.int) ∧ ns.length ≤ 63 ∧ ∀ H', Q (.bl true) H'
/-- _law_h = _law_mix(_law_script, seed), then the rest -/
def tLaw (K : PySem.W.Frag) (seed : Int) (ts : TS) : TS := fun D σ H => ∃ v, σ[0]? = some (some v) ∧ spMix K [v, .int seed] H (fun u H1 => ts D (σ.set 1 (some u)) H1) (fun _ _ _ => False)
section
variable {P : Program} {w : World} {K : PySem.W.Frag} {mg : Str → Option Value} {base : Heap} {exc : List (Addr × List Str)} {cls : List Zc} {G : List Fd} {C : List D}
theorem law_rel {Z : Zx} {H : Hp} {σ : L2.St} {n : Nat} {p q : Addr} {st ix : Int} {cells : List Int} (hl : σ.length = n + 2) (h1 : σ[1]? = some (some (.ref p))) (hq : q ≠ p) (hp : H p = some (.lst [.int st, .ref q, .int ix, .int 14])) (hc : H q = some (.lst (cells.map V.int))) :
    Rel Z.un ([none, some (true, .rng p st cells ix)] ++ List.replicate n none) σ (fun _ => none) H (fun _ => [p, q]) := by
  have get : ∀ (i : Nat) (o : Bool) (d : D), (([none, some (true, .rng p st cells ix)] ++ List.replicate n none : Fr))[i]? = some (some (o, d)) → i = 1 ∧ o = true ∧ d = .rng p st cells ix := fun i o d h => by
    match i, h with
    | 0, h => simp at h
    | 1, h =>
      have h' : some (true, D.rng p st cells ix) = some (o, d) := by simpa using h
      cases h'
      exact ⟨rfl, rfl, rfl⟩
    | i + 2, h =>
      rw [List.getElem?_append_right (by simp), List.getElem?_replicate] at h
      split at h <;> cases h
  refine ⟨.un, fun a o h => (nomatch h), by rw [List.length_append, List.length_replicate, hl]; simp [Nat.add_comm], fun i d h => ?_, fun i d h => ?_, fun i j d e hij h1 h2 => ?_⟩
  · obtain ⟨_, z, _⟩ := get i false d h
    cases z
  · obtain ⟨z1, _, z2⟩ := get i true d h
    subst z1 z2
    exact ⟨p, h1, ⟨rfl, q, rfl, hq, hp, hc⟩, fun a _ => rfl⟩
  · obtain ⟨z1, _⟩ := get i true d h1
    obtain ⟨z2, _⟩ := get j true e h2
    exact absurd (z1.trans z2.symm) hij
theorem law_walk {X : Cx} {st : Stmt} {sts : List Stmt} {ts : TS} {seed : Int} (h1 : PS X st (tAsg (tCall (spMix X.K) [] (fun _ _ _ => False) (tCons (tVar 0) (tCons (tC (.int seed)) tNil))) (gName 1))) (h2 : PSs X sts ts) : PSs X (st :: sts) (tLaw X.K seed ts) := (pss_cons h1 h2).cons fun D σ H h => h
theorem law_ok {x q : Str} {params : Arguments} {body : List Stmt} {scope : Scope} {f : Addr} {fd : FuncData} {N : List Str} {k n : Nat} {b : Sts} {seed : Int} (F : FunD K x q params body scope [] [] f fd) (S : FnScope N ["_law_script"] scope) (hn : N.length = n + 2)
    (plain : ∀ (p : Addr) (st : Int) (cells : List Int), cells.length ≤ 63 → ∃ r, evSs G C b ([none, some (true, .rng p st cells 0)] ++ List.replicate n none) = .rt false (.bl true) r)
    (walk : ∀ (cdv : Value) (A : Around) (outer : List Env) (s : Shared) (H : Hp) (E : XK), Room k (A.deeper (envOfC q scope s.heap.objs.size f cdv)) → PSs (cxOf (L2N.CX P w) P w K mg base N q scope f cdv A outer s H E) body (tLaw K seed (tSs (cxOf (L2N.CX P w) P w K mg base N q scope f cdv A outer s H E) ⟨cls, [], []⟩ exc (fun c d _ H' => E c d H') G C b))) :
    FnOk P w K mg base (L2N.CX P w) (k + 1) f fd ["_law_script"] (spLaw K) := by
  refine F.ok S (fun vs H Q E h => by obtain ⟨a, ns, rfl, _⟩ := h; rfl) fun cdv A outer s H vs Q E hr h => ⟨_, walk cdv A outer s H E hr, ?_⟩
  obtain ⟨a, ns, rfl, hS, hlen, hQ⟩ := h
  have hst : L2.start N [V.ref a] = some (.ref a) :: none :: List.replicate n none := by
    unfold L2.start
    rw [hn]
    rfl
  rw [hst]
  refine ⟨.ref a, rfl, a, ns, seed, rfl, hS, fun q p hq hp => ?_⟩
  obtain ⟨r, he⟩ := plain p (mixN ns seed) ns hlen
  have hqp : q ≠ p := fun z => by rw [z, upd_same] at hp; cases hp
  refine ⟨_, fun _ => none, fun _ => [p, q], law_rel (n := n) (Z := ⟨P, w, K, ⟨cls, [], []⟩, exc⟩) (by simp) (by simp) hqp upd_same (by rw [upd_ne hqp, upd_same]), ?_⟩
  rw [he]
  intro v fr σ' F' H' fp' e R rv hf
  unfold RtV at rv
  rw [if_neg (by decide)] at rv
  obtain ⟨_, hv⟩ := rv
  cases hv
  exact hQ H'
theorem cx_false {P : Program} {w : World} {o : List Env} {H : Hp} {s : Shared} {e : Value} {s' : Shared} (z : L2N.CX P w o H s (fun _ _ _ => False) e s') : False := by
  obtain ⟨_, _, _, _, _, _, _, _, _, _, _, _, z⟩ := z
  exact z
/-- a law's end, errors told by world -/
theorem walk_ofW {l : PySem.W.OpenLaw} {n k : Nat} {q : Program} {loose : List Str} {XP : (Str → Option Value) → Heap → Prop} {YP : World → Heap → Prop} {d : DefRec} {CX : World → CXT} {x : Str} (hn : l.most = some n) (hn2 : n ≤ sizeLine) (hdf : d.params.defaults = []) (hr : Room k callerA)
    (F : ∀ (w : World) (mg : Str → Option Value) (fa : Addr) (h : Heap), YP w h → h.Ns mainGlobals mg → mg d.name = some (.ref fa) → ∃ (K : PySem.W.Frag) (fd : FuncData) (sp : Sp), K.In h ∧ (∀ (s : Shared) (u : Value), BindsTo s fd ⟨[u], []⟩ [(x, u)]) ∧
      (∀ (H : Hp) (a : Addr) (ns : List Int), ns.length ≤ n → Only H → SqL K H a (ns.map V.int) → sp [.ref a] H (fun v _ => v = .bl true) fun _ _ _ => False) ∧ ∀ base : Heap, K.In base → base.Ns mainGlobals mg → FnOk l.prog w K mg base (CX w) k fa fd [x] sp)
    (hCX : ∀ (w : World) (H : Hp) (s : Shared) (e : Value) (s' : Shared), CX w [] H s (fun _ _ _ => False) e s' → False) : PySem.W.WalkO q loose XP YP l.row.toRowW d [] (fun f vs => PySem.call f vs) := by
  apply Att.attach_call hn hdf
  intro w s₀ s₁ mg mb fa o pm cd doc a vs ns G Y ho hd hcd hmg hobj hints hlen hg
  obtain ⟨K, fd, sp, h1, h2, h3, h4⟩ := F w mg fa _ Y G.T.g hmg
  refine law_call h1 G.T.g G.T.b G.T.builtins G.T.nolimit hg hobj hints (Nat.le_trans hlen hn2) hr h4 h2 (fun H hO hS => h3 H a ns hlen hO hS) ?_
  intro H e s'
  exact hCX w H s₁ e s'
end
end VL
end
section
/-! V51: {**d, k: v} and dict(d), keys that are tuples: the machine's heap. -/
namespace VL
open PySem PySem.Spec PyProof.Rows L2
section
variable {prog : Program} {w : World} {K : Type} [DecidableEq K] {knd : HeapKind prog w K} {A : Around} {E : Value → Shared → Prop} {s : Shared}
/-- a dict's object with other entries -/
theorem dictH_to {h h' : Heap} {d : Addr} {o o' : Obj} {es' : Array DictEntry} {ep' : Nat} {ys : List (K × Addr × Value)} (sb : Heap.SameBut d h h') (ho : h.get? d = some o) {es : Array DictEntry} {ep : Nat} (hd : o.data = .dict es ep) (ho' : h'.get? d = some o') (hc : o'.ExactDict) (hd' : o'.data = .dict es' ep')
    (he : es'.toList = ys.map (entryOfKey knd)) (hk : ∀ y ∈ ys, knd.is h y.1 y.2.1) (hn : (ys.map (·.1)).Nodup) : h'.DictOfH knd d ys :=
  ⟨o', es', ep', ho', hc, hd', he, fun y hy => knd.keeps (hk y hy) ho hd sb, hn⟩
theorem put_heap {d a : Addr} {xs : List (K × Addr × Value)} {k : K} {v : Value} {Q : Unit → Shared → Prop} (hu : knd.room A) (hkey : knd.is s.heap k a) (hm : s.heap.DictOfH knd d xs) (hsz : xs.length ≤ sizeLine)
    (q : ∀ h', h'.DictOfH knd d (storedH xs k a v) → Heap.SameBut d s.heap h' → Q () { s with heap := h' }) : wpAny (model prog w) A (dictPut d (knd.hash k) (.ref a) v) Q E s := by
  obtain ⟨o, es, ep, ho, hc, hd, he, hi, hn⟩ := hm
  have hlen := size_of_entries he
  unfold dictPut
  refine wpAny_bind (wpAny_dictFind_heap hu hkey ho hd he hi hn (fun hno => ?_) fun j p hj => ?_)
  · have hnew := storedH_new (a := a) (v := v) (atKey_none_of_get hno)
    refine wpAny_updateDictKeys (hz := by omega) ho hd (q _ ?_ (Heap.SameBut.update ..))
    rw [hnew]
    refine dictH_to (Heap.SameBut.update ..) ho hd (Heap.get?_update_self _ ho (Obj.isFreed_of_dict (Obj.data_mapDictKeys hd _))) (hc.mapDictKeys _) (Obj.data_mapDictKeys hd _) (by simp [he, entryOfKey]) (fun x hx => ?_) ?_
    · rcases List.mem_append.mp hx with z | z
      · exact hi x z
      · rw [List.mem_singleton.mp z]; exact hkey
    · have hnot := not_mem_keys_of_get hno
      simp only [List.map_append, List.map_cons, List.map_nil, List.nodup_append]
      exact ⟨hn, by simp, fun x hx y hy z => hnot (by rw [← List.mem_singleton.mp hy, ← z]; exact hx)⟩
  · have hold := storedH_old (a := a) (v := v) (atKey_of_get hn hj)
    refine wpAny_updateDict ho hd (q _ ?_ (Heap.SameBut.update ..))
    rw [hold]
    refine dictH_to (Heap.SameBut.update ..) ho hd (Heap.get?_update_self _ ho (Obj.isFreed_of_dict (Obj.data_mapDict hd _))) (hc.mapDict _) (Obj.data_mapDict hd _) ?_ (fun x hx => ?_) (by rw [keys_map_putAt]; exact hn)
    · have m := modify_map_putAt (entryOfKey knd) (fun e : DictEntry => { e with val := v }) k v (fun _ _ => rfl) hn hj
      obtain ⟨l⟩ := es
      rw [← he] at m
      simpa using m
    · obtain ⟨y, hy, rfl⟩ := List.mem_map.mp hx
      unfold putAt
      split
      · exact hi y hy
      · exact hi y hy
theorem ite_pre {β γ : Type} {M : Model} {c : Prop} [Decidable c] {p1 : PySem.Sem γ} {p2 : γ → PySem.Sem PUnit} {tail : PySem.Sem β} {Q : β → Shared → Prop} (h1 : wpAny M A tail Q E s) (h2 : c → wpAny M A p1 (fun x s' => wpAny M A (p2 x) (fun _ s'' => s'' = s) E s') E s) :
    wpAny M A (if c then (p1 >>= fun x => p2 x >>= fun _ => tail) else tail) Q E s := by
  by_cases hc : c
  · rw [if_pos hc]
    exact wpAny_bind (wpAny_mono (h2 hc) (fun x s' h => wpAny_bind (wpAny_mono h (fun _ s'' e => by subst e; exact h1) fun _ _ e => e)) fun _ _ e => e)
  · rw [if_neg hc]
    exact h1
/-- how far the walk over o's entries is -/
structure At (knd : HeapKind prog w K) (s : Shared) (d o : Addr) (oo : Obj) (kvs more : List (K × Addr × Value)) (i : Nat) (s' : Shared) : Prop where
  st : s' = { s with heap := s'.heap }
  le : i ≤ more.length
  dst : s'.heap.DictOfH knd d (storedAllH kvs (more.take i))
  src : s'.heap.DictOfH knd o more
  obj : s'.heap.get? o = some oo
  same : Heap.SameBut d s.heap s'.heap
theorem range_next {i n x : Nat} {rest : List Nat} (h : x :: rest = List.range' i (n - i)) : x = i ∧ i < n ∧ rest = List.range' (i + 1) (n - (i + 1)) := by
  cases hk : n - i with
  | zero => rw [hk] at h; exact nomatch h
  | succ m =>
    rw [hk, List.range'_succ] at h
    cases h
    exact ⟨rfl, by omega, by congr 1; omega⟩
theorem range_end {i n : Nat} (h : ([] : List Nat) = List.range' i (n - i)) : n ≤ i := by
  cases hk : n - i with
  | zero => omega
  | succ m => rw [hk, List.range'_succ] at h; exact nomatch h
theorem merge_map_heap {d o : Addr} {kvs more : List (K × Addr × Value)} {Q : Unit → Shared → Prop} (hu : knd.room A) (hdo : d ≠ o) (hoS : (o == sysModules) = false)
    (hd : s.heap.DictOfH knd d kvs) (ho : s.heap.DictOfH knd o more) (hap : kvs ≠ [] ∨ ((∀ x ∈ more, s.TypeIs (.ref x.2.1) "tuple") ∧ (more.map fun x => knd.hash x.1).Nodup)) (hsz : kvs.length + more.length ≤ sizeLine)
    (q : ∀ h', h'.DictOfH knd d (storedAllH kvs more) → Heap.SameBut d s.heap h' → Q () { s with heap := h' }) : wpAny (model prog w) A (mergeMapping d (.ref o) false) Q E s := by
  obtain ⟨od, ed, pd, gd, xd, td, ld, id_, nd⟩ := id hd
  obtain ⟨oo, eo, po, go_, xo, to_, lo, io, no⟩ := id ho
  have hlen := size_of_entries lo
  unfold mergeMapping
  refine wpAny_bind (wpAny_isInstance ho.typeIs isSubtype_dict_dict ?_)
  dsimp only
  rw [if_pos rfl]
  refine wpAny_bind (wpAny_specialOf ho.typeIs F.slot_dict_iter.lookup ?_)
  simp only [beq_self_eq_true]
  refine wpAny_bind (wpAny_pure ?_)
  dsimp only
  rw [hoS, if_neg Bool.false_ne_true]
  refine wpAny_bind (wpAny_dictEntries gd td ?_)
  refine ite_pre ?_ fun hemp => ?_
  · refine wpAny_bind (wpAny_dictEntries go_ to_ (wpAny_bind (wpAny_dictEpoch go_ to_ (wpAny_bind ?_))))
    rw [List.range_eq_range']
    refine wpAny_forIn_list _ (fun rest _ s' => ∃ i, rest = List.range' i (eo.size - i) ∧ At knd s d o oo kvs more i s') _ ?_ ?_ _ _ ⟨0, by simp, rfl, Nat.zero_le _, by simpa [storedAllH] using hd, ho, go_, Heap.SameBut.refl _ _⟩
    · rintro x rest b s' ⟨i, hr, P⟩
      obtain ⟨rfl, hlt, hrest⟩ := range_next hr
      have hx : x < more.length := by omega
      have hkv : more[x]? = some more[x] := List.getElem?_eq_getElem hx
      refine wpAny_bind (wpAny_dictEntries P.obj to_ ?_)
      rw [entry_at lo x, hkv]
      have hmx : (storedAllH kvs (more.take x)).length ≤ sizeLine := by
        have e1 := storedAllH_length (more.take x) kvs
        rw [List.length_take] at e1
        omega
      have hkey : knd.is s'.heap more[x].1 more[x].2.1 := by
        obtain ⟨_, _, _, _, _, _, _, hi', _⟩ := P.src
        exact hi' _ (List.getElem_mem hx)
      refine wpAny_bind (wpAny_holding (put_heap hu hkey P.dst hmx fun h'' hd'' hs'' => ?_))
      have ho'' : h''.get? o = some oo := (hs''.2 o (Ne.symm hdo)).trans P.obj
      refine wpAny_bind (wpAny_dictEpoch ho'' to_ ?_)
      rw [if_neg (by simp)]
      refine wpAny_pure ⟨x + 1, hrest, by rw [P.st], hx, ?_, P.src.notHere P.dst hdo hs'', ho'', P.same.trans hs''⟩
      rw [storedAllH_take_succ kvs more x _ hkv]
      exact hd''
    · rintro b s' ⟨i, hr, P⟩
      have hin := range_end hr
      have hfull : more.take i = more := List.take_of_length_le (by omega)
      have hz := P.dst
      rw [hfull] at hz
      rw [P.st]
      exact wpAny_pure (q _ hz P.same)
  · have hk : kvs = [] := by
      have h1 := size_of_entries ld
      rw [Array.isEmpty_iff.mp hemp] at h1
      exact List.length_eq_zero_iff.mp h1.symm
    obtain ⟨hty, hh⟩ := hap.resolve_left fun h => h hk
    have hall := keysApart (s := s) lo hty hh
    refine wpAny_dictEntries go_ to_ ?_
    rw [← Array.forIn_toList]
    refine wpAny_forIn_list _ (fun rest _ s' => s' = s ∧ ∀ e ∈ rest, KeyApart s eo e) _ ?_ (fun _ _ h => h.1) _ _ ⟨rfl, hall⟩
    rintro e rest b s' ⟨rfl, hr⟩
    have nx : ∀ x ∈ rest, KeyApart s' eo x := fun x hx => hr x (List.mem_cons_of_mem _ hx)
    rcases hr e List.mem_cons_self with hv | ⟨a, hka, hT, h1⟩
    · cases hkk : e.key with
      | ref a => rw [hkk] at hv; exact absurd hv (by simp [carriedByValue])
      | _ => exact wpAny_pure ⟨rfl, nx⟩
    · rw [hka]
      refine wpAny_bind (wpAny_specialOf hT F.slot_tuple_eq.lookup (wpAny_ite_split (fun _ => ?_) fun _ => wpAny_pure ⟨rfl, nx⟩))
      rw [if_neg (by omega)]
      exact wpAny_pure ⟨rfl, nx⟩
/-- dict(d) -/
theorem call_dict_heap {o : Addr} {more : List (K × Addr × Value)} {Q : Value → Shared → Prop} (hu : knd.room A.in1.in1) (hoS : (o == sysModules) = false) (ho : s.heap.DictOfH knd o more) (hty : ∀ x ∈ more, s.TypeIs (.ref x.2.1) "tuple") (hh : (more.map fun x => knd.hash x.1).Nodup) (hsz : more.length ≤ sizeLine)
    (hk : ∀ x ∈ more, knd.is (s.heap.push { cls := .type "dict", data := .dict #[] }) x.1 x.2.1)
    (q : ∀ h', h'.DictOfH knd s.heap.objs.size more → Heap.SameBut s.heap.objs.size (s.heap.push { cls := .type "dict", data := .dict #[] }) h' → Q (.ref s.heap.objs.size) { s with heap := h' }) : wpAny (model prog w) A (call (.type "dict") [.ref o]) Q E s := by
  generalize hp : s.heap.push { cls := .type "dict", data := .dict #[] } = h1 at q hk
  have up : ∀ b u, s.heap.get? b = some u → h1.get? b = some u := fun b u e => by rw [← hp]; exact Heap.get?_push_of_some _ e
  have hnew : h1.DictOfH knd s.heap.objs.size [] := by
    rw [← hp]
    exact ⟨_, #[], 0, Heap.get?_push_size _ rfl, ⟨rfl, rfl, rfl⟩, rfl, rfl, (fun _ h => nomatch h), List.nodup_nil⟩
  have ho1 : h1.DictOfH knd o more := by
    exact ho.at' (fun u e => up _ u e) hk
  have hne : s.heap.objs.size ≠ o := fun e => by
    obtain ⟨_, _, _, g, _⟩ := ho
    have := Heap.lt_size g
    exact absurd this (by rw [e]; exact Nat.lt_irrefl _)
  refine callType_codes (Q₁ := fun obj s₁ => obj = .ref s.heap.objs.size ∧ s₁ = { s with heap := h1 }) PySem.F.kt_called_dict (PySem.F.kt_typeCall_dict_1 _) PySem.F.entry_dict_init (kt_code_dict_new _ ⟨rfl, by rw [hp]⟩) fun obj s₁ ⟨e1, e2⟩ => ?_
  subst e1 e2
  refine ⟨hnew.typeIs, PySem.F.args_dict_init_2 _ _, ?_⟩
  unfold Builtin.«dict.__init__» Builtin.Dict.selfAndRest
  refine wpAny_bind (wpAny_bind (wpAny_notOrdered_dict hnew.typeIs (wpAny_pure ?_)))
  have nd : (more.map (·.1)).Nodup := ho.nodup
  refine updateFrom_dictH (A := A.in1) (s := { s with heap := h1 }) (kvs := []) (nm := "dict.__init__") .none hu hne hoS hnew ho1 (.inr ⟨fun x hx => ?_, hh⟩) (by simpa using hsz) fun h' hd' _ hs' => ⟨rfl, q h' ?_ hs'⟩
  · obtain ⟨u, e1, e2⟩ := hty x hx
    exact ⟨u, up _ u e1, e2⟩
  · rw [storedAllH_nil_of_nodup more nd] at hd'
    exact hd'
end
end VL
end
section
/-! V40: dict(xs) of a list of pairs; xs[::-1]. -/
namespace VL
open PySem PySem.Spec PyProof.Rows L2
section
variable {X : Cx} {cls : Clz} {exc : List (Addr × List Str)} {W W' : WX} {G : List Fd} {C : List D} {e a b c : Expr} {es : List Expr} {xa xb xc x xk xv : Ex} {xs : Ar} {pos p : Pos}
variable {Z : Zx} {r r' r2 : Fr} {σ σ' : L2.St} {F F' F2 H H' H2 : Hp} {fp fp' fp2 : Nat → List Addr} {s : Shared} {pins : List (Addr × Obj)}
/-- pairs as they stand in the heap: their tuple, key, value -/
inductive Rows (Z : Zx) (F : Hp) (h : Heap) : List (D × D) → List (Addr × Value × Value) → Prop
  | nil : Rows Z F h [] []
  | cons {k v : D} {vk vv : V} {T : Addr} {uk uv : Value} {ps : List (D × D)} {rs : List (Addr × Value × Value)} : Rep Z F k vk → RelV vk uk → Rep Z F v vv → RelV vv uv → PairAt h T uk uv → Rows Z F h ps rs → Rows Z F h ((k, v) :: ps) ((T, uk, uv) :: rs)
theorem Rows.length {h : Heap} : ∀ {ps : List (D × D)} {rs : List (Addr × Value × Value)}, Rows Z F h ps rs → ps.length = rs.length
  | _, _, .nil => rfl
  | _, _, .cons _ _ _ _ _ t => by rw [List.length_cons, List.length_cons, t.length]
theorem Rows.at_ {h : Heap} : ∀ {ps : List (D × D)} {rs : List (Addr × Value × Value)}, Rows Z F h ps rs → ∀ (j : Nat) (q : Addr × Value × Value), rs[j]? = some q → PairAt h q.1 q.2.1 q.2.2
  | _, _, .nil, j, q, e => by simp at e
  | _, _, .cons _ _ _ _ p t, 0, q, e => by cases e; exact p
  | _, _, .cons _ _ _ _ p t, j + 1, q, e => t.at_ j q (by simpa using e)
theorem rows_of (I : Inv X pins σ H s) (sF : Same F H) : ∀ {zs : List D} {ps : List (D × D)} {ys : List V} {its : List Value}, pairsOf zs = some ps → RepL (zx X cls exc) F zs ys → Vals ys its → ∃ rs, Rows (zx X cls exc) F s.heap ps rs ∧ its = rs.map fun q => Value.ref q.1
  | [], ps, ys, its, hp, hr, hv => by
    cases hr
    cases hv
    cases hp
    exact ⟨[], .nil, rfl⟩
  | z :: zs, ps, ys, its, hp, hr, hv => by
    cases hr with
    | cons h1 hr =>
      cases hv with
      | cons v1 hv =>
        unfold pairsOf at hp
        split at hp
        · cases ‹_ = []›
        · rename_i k v rr heq
          cases heq
          obtain ⟨ps', hp', rfl⟩ := Option.map_eq_some_iff.mp hp
          obtain ⟨rs, ih, e⟩ := rows_of I sF hp' hr hv
          cases h1 with
          | tup hs hl =>
            cases v1
            cases hl with
            | cons r1 hl =>
              cases hl with
              | cons r2 hl =>
                cases hl
                obtain ⟨us, rv, ht, _⟩ := I.tuple (SqN.sqT (Same.tup sF hs))
                obtain ⟨u, y, ei, ru, ry⟩ := vals2 rv
                subst ei
                refine ⟨_ :: rs, .cons r1 ru r2 ry (.inl ht) ih, ?_⟩
                rw [e]
                rfl
        · cases hp
theorem PY.store {kvs : List (D × D)} {xs : List (Key × Value)} {k : Key} {y : D} {vy : V} {uy : Value} (px : PY Z F kvs xs) (nd : (kvs.map fun p => keyOk p.1).Nodup) (ry : RelV vy uy) (hy : Rep Z F y vy) : PY Z F (storeD (kd k) (kn k) y kvs) (stored xs k uy) := by
  have nd' := nd
  rw [px.keys] at nd'
  unfold stored
  rcases px.look (q := k) with ⟨l1, l2⟩ | ⟨w, vv, pp, l1, l2, l3, l4⟩
  · have hany : (xs.any fun kv => decide (kv.1 = k)) = false := by
      rw [List.any_eq_false]
      intro x hx hxk
      unfold valueAt at l2
      have h3 := Option.map_eq_none_iff.mp l2
      have := List.find?_eq_none.mp h3 x hx
      exact this hxk
    rw [hany, if_neg (by decide), store_new l1]
    exact px.append (.cons ry hy .nil)
  · have hany : (xs.any fun kv => decide (kv.1 = k)) = true := by
      unfold valueAt at l2
      obtain ⟨x, h3, _⟩ := Option.map_eq_some_iff.mp l2
      rw [List.any_eq_true]
      exact ⟨x, List.mem_of_find?_eq_some h3, by simpa using List.find?_some h3⟩
    rw [hany, if_pos rfl]
    exact px.put_old ry hy (by rw [l1]; rfl) (nodup_of_map _ nd')
theorem PX.store {kvs : List (D × D)} {xs : List (NestedKey × Addr × Value)} {k : D} {n : NestedKey} {b : Addr} {y : D} {vy : V} {uy : Value} (px : PX Z F kvs xs) (nd : (kvs.map fun p => keyOk p.1).Nodup) (hn : keyOk k = some n) (ht : isTup k = true) (hk : Rep Z F k (.ref b)) (ry : RelV vy uy) (hy : Rep Z F y vy) : PX Z F (storeD k n y kvs) (storedH xs n b uy) := by
  have nd' := nd
  rw [px.keys] at nd'
  rcases px.look (n := n) with ⟨l1, l2⟩ | ⟨w, vv, pp, l1, l2, l3, l4⟩
  · rw [storedH_new l2, store_new l1]
    exact px.append (.cons hn ht hk ry hy .nil)
  · rw [storedH_old l2]
    exact px.put_old ry hy (by rw [l1]; rfl) (nodup_of_map some nd')
/-- pairs with leaf keys, put one behind the other -/
theorem rows_leaf {h : Heap} : ∀ {ps : List (D × D)} {rs : List (Addr × Value × Value)} {acc kvs : List (D × D)} {ax : List (Key × Value)}, Rows Z F h ps rs → PY Z F acc ax → (acc.map fun p => keyOk p.1).Nodup → (∀ p ∈ ps, isTup p.1 = false) → putKeys acc ps = some kvs →
    ∃ ks : List (Key × Value), ks.length = rs.length ∧ (∀ (i : Nat) (q : Addr × Value × Value), rs[i]? = some q → ∃ k, ks[i]? = some (k, q.2.2) ∧ keyIs k q.2.1 = true) ∧ PY Z F kvs (merged ax ks) ∧ (kvs.map fun p => keyOk p.1).Nodup
  | _, _, acc, kvs, ax, .nil, pa, nd, _, hp => by
    cases hp
    exact ⟨[], rfl, fun i q e => by simp at e, pa, nd⟩
  | _, _, acc, kvs, ax, .cons (k := k) (v := v) (uk := uk) (uv := uv) r1 r2 r3 r4 _ t, pa, nd, hl, hp => by
    unfold putKeys at hp
    split at hp
    · rename_i acc' ha
      unfold putKey at ha
      split at ha
      · rename_i n hn
        split at ha
        · cases ha
          obtain ⟨q, rfl, rfl⟩ := keyOk_leaf hn (hl _ List.mem_cons_self)
          have hkey : keyIs q uk = true := by
            cases q with
            | inl i => cases r1; obtain ⟨t, rfl⟩ := r2; exact keyIs_int i t
            | inr z => cases r1; obtain ⟨t, rfl⟩ := r2; exact keyIs_str z t
          obtain ⟨ks, k1, k2, k3, k4⟩ := rows_leaf (ax := stored ax q uv) t (pa.store nd r4 r3) (store_nodup hn nd) (fun p hp => hl p (List.mem_cons_of_mem _ hp)) hp
          refine ⟨(q, uv) :: ks, by rw [List.length_cons, List.length_cons, k1], fun i w e => ?_, k3, k4⟩
          cases i with
          | zero => cases e; exact ⟨q, rfl, hkey⟩
          | succ i => exact k2 i w (by simpa using e)
        · cases ha
      · cases ha
    · cases hp
/-- pairs with tuple keys -/
theorem rows_tup (I : Inv X pins σ H s) (sF : Same F H) : ∀ {ps : List (D × D)} {rs : List (Addr × Value × Value)} {acc kvs : List (D × D)} {ax : List (NestedKey × Addr × Value)}, Rows (zx X cls exc) F s.heap ps rs → PX (zx X cls exc) F acc ax → (acc.map fun p => keyOk p.1).Nodup → (∀ p ∈ ps, isTup p.1 = true) → putKeys acc ps = some kvs →
    ∃ ks : List (NestedKey × Addr × Value), ks.length = rs.length ∧ (∀ (i : Nat) (q : Addr × Value × Value), rs[i]? = some q → ∃ k b, ks[i]? = some (k, b, q.2.2) ∧ q.2.1 = .ref b) ∧ (∀ x ∈ ks, (nestedKind X.prog X.w).is s.heap x.1 x.2.1) ∧ PX (zx X cls exc) F kvs (storedAllH ax ks) ∧ (kvs.map fun p => keyOk p.1).Nodup
  | _, _, acc, kvs, ax, .nil, pa, nd, _, hp => by
    cases hp
    exact ⟨[], rfl, fun i q e => by simp at e, (fun x h => nomatch h), pa, nd⟩
  | _, _, acc, kvs, ax, .cons (k := k) (v := v) (uk := uk) (uv := uv) r1 r2 r3 r4 _ t, pa, nd, hl, hp => by
    unfold putKeys at hp
    split at hp
    · rename_i acc' ha
      unfold putKey at ha
      split at ha
      · rename_i n hn
        split at ha
        · cases ha
          have ht := hl _ List.mem_cons_self
          dsimp only at ht
          obtain ⟨b, rfl⟩ := isTup_ref r1 ht
          cases r2
          have his : (nestedKind X.prog X.w).is s.heap n b := by
            cases k with
            | tup ds =>
              obtain ⟨q1, q2⟩ := keyOk_tup hn
              exact ⟨Rep.nested (cls := cls) (exc := exc) I (r1.mono sF) rfl q1, q2⟩
            | _ => cases ht
          obtain ⟨ks, k1, k2, k3, k4, k5⟩ := rows_tup I sF (ax := storedH ax n b uv) t (pa.store nd hn ht r1 r4 r3) (store_nodup hn nd) (fun p hp => hl p (List.mem_cons_of_mem _ hp)) hp
          refine ⟨(n, b, uv) :: ks, by rw [List.length_cons, List.length_cons, k1], fun i w e => ?_, fun x hx => ?_, k4, k5⟩
          · cases i with
            | zero => cases e; exact ⟨n, b, rfl, rfl⟩
            | succ i => exact k2 i w (by simpa using e)
          · rcases List.mem_cons.mp hx with z | z
            · subst z; exact his
            · exact k3 x z
        · cases ha
      · cases ha
    · cases hp
theorem storeD_ne {k : D} {n : NestedKey} {v : D} : ∀ kvs : List (D × D), storeD k n v kvs ≠ []
  | [] => by simp [storeD]
  | (a, w) :: r => by unfold storeD; split <;> simp
theorem storeD_mem {k : D} {n : NestedKey} {v : D} : ∀ {kvs : List (D × D)} {p : D × D}, p ∈ storeD k n v kvs → p.1 = k ∨ ∃ q ∈ kvs, q.1 = p.1
  | [], p, h => by
    rw [storeD] at h
    rw [List.mem_singleton.mp h]
    exact .inl rfl
  | (a, w) :: r, p, h => by
    unfold storeD at h
    split at h
    · rcases List.mem_cons.mp h with z | z
      · rw [z]; exact .inr ⟨_, List.mem_cons_self, rfl⟩
      · exact .inr ⟨p, List.mem_cons_of_mem _ z, rfl⟩
    · rcases List.mem_cons.mp h with z | z
      · rw [z]; exact .inr ⟨_, List.mem_cons_self, rfl⟩
      · rcases storeD_mem z with z | ⟨q, hq, e⟩
        · exact .inl z
        · exact .inr ⟨q, List.mem_cons_of_mem _ hq, e⟩
theorem make_all {t : Bool} : ∀ {ps acc kvs : List (D × D)}, acc ≠ [] → (∀ p ∈ acc, isTup p.1 = t) → putKeys acc ps = some kvs → ∀ p ∈ ps, isTup p.1 = t
  | [], _, _, _, _, _, p, h => nomatch h
  | (k, v) :: ps, acc, kvs, hne, ha, hp, p, hm => by
    unfold putKeys at hp
    split at hp
    · rename_i acc' hk
      unfold putKey at hk
      split at hk
      · rename_i n hn
        split at hk
        · rename_i hc
          cases hk
          have hkt : isTup k = t := by
            cases acc with
            | nil => exact absurd rfl hne
            | cons q acc =>
              have h1 := hc.1
              unfold oneMake at h1
              rw [List.all_cons, Bool.and_eq_true] at h1
              have h2 := ha q List.mem_cons_self
              have h3 := h1.1
              rw [h2] at h3
              exact (beq_iff_eq.mp h3).symm
          rcases List.mem_cons.mp hm with z | z
          · rw [z]; exact hkt
          · refine make_all (storeD_ne _) (fun q hq => ?_) hp p z
            rcases storeD_mem hq with e | ⟨w, hw, e⟩
            · rw [e]; exact hkt
            · rw [← e]; exact ha w hw
        · cases hk
      · cases hk
    · cases hp
theorem putKeys_len : ∀ {ps acc kvs : List (D × D)}, acc.length ≤ LIM → putKeys acc ps = some kvs → kvs.length ≤ LIM
  | [], _, _, h, hp => by cases hp; exact h
  | (k, v) :: ps, acc, kvs, h, hp => by
    unfold putKeys at hp
    split at hp
    · rename_i acc' hk
      unfold putKey at hk
      split at hk
      · split at hk
        · rename_i n hn hc
          cases hk
          refine putKeys_len (Nat.le_trans (storeD_len acc) hc.2) hp
        · cases hk
      · cases hk
    · cases hp
/-! dict(d) of a dict whose keys are tuples of numbers -/
theorem numsN_hash (w : World) : ∀ {ks : List NestedKey} {is : List Int}, numsN ks = some is → NestedKey.hashes w ks = is.map hashInt
  | [], is, h => by cases h; rfl
  | .num i :: ks, is, h => by
    unfold numsN at h
    obtain ⟨js, h1, rfl⟩ := Option.map_eq_some_iff.mp h
    rw [NestedKey.hashes, numsN_hash w h1]
    rfl
  | .none :: _, _, h => nomatch h
  | .text _ :: _, _, h => nomatch h
  | .tup _ :: _, _, h => nomatch h
theorem flatH_hash (w : World) : ∀ {n : NestedKey} {h : Int}, flatH n = some h → n.hash w = h
  | .tup ks, h, e => by
    unfold flatH at e
    obtain ⟨is, h1, rfl⟩ := Option.map_eq_some_iff.mp e
    rw [NestedKey.hash, numsN_hash w h1]
  | .none, _, e => nomatch e
  | .num _, _, e => nomatch e
  | .text _, _, e => nomatch e
theorem flat_tup {k : D} {h : Int} (e : (keyOk k).bind flatH = some h) : isTup k = true := by
  cases k with
  | tup ds => rfl
  | _ => exact nomatch e
theorem apart_tup : ∀ {kvs : List (D × D)} {hs : List Int}, flatHs kvs = some hs → (kvs.all fun p => isTup p.1) = true
  | [], _, _ => rfl
  | (k, v) :: r, hs, h => by
    unfold flatHs at h
    split at h
    · rename_i a b h1 h2
      rw [List.all_cons, flat_tup h1, apart_tup h2]
      rfl
    · cases h
theorem apart_hash : ∀ {kvs : List (D × D)} {xs : List (NestedKey × Addr × Value)} {hs : List Int}, PX Z F kvs xs → flatHs kvs = some hs → (xs.map fun x => x.1.hash Z.w) = hs
  | _, _, hs, .nil, h => by cases h; rfl
  | (k, v) :: r, _, hs, .cons h1 _ _ _ _ px, h => by
    unfold flatHs at h
    split at h
    · rename_i a b e1 e2
      cases h
      rw [h1] at e1
      rw [List.map_cons, apart_hash px e2]
      congr 1
      exact flatH_hash _ e1
    · cases h
theorem px_is (I : Inv X pins σ H s) (sF : Same F H) {kvs : List (D × D)} {xs : List (NestedKey × Addr × Value)} (p : PX (zx X cls exc) F kvs xs) : ∀ x ∈ xs, (nestedKind X.prog X.w).is s.heap x.1 x.2.1 := by
  induction p with
  | nil => exact fun x hx => nomatch hx
  | @cons k v n a vv u r xs h1 h2 h3 h4 h5 hr ih =>
    intro x hx
    rcases List.mem_cons.mp hx with z | z
    · subst z
      cases k with
      | tup ds =>
        obtain ⟨q1, q2⟩ := keyOk_tup h1
        exact ⟨Rep.nested (cls := cls) (exc := exc) I (h3.mono sF) rfl q1, q2⟩
      | _ => cases h2
    · exact ih x z
theorem px_ty (I : Inv X pins σ H s) (sF : Same F H) {kvs : List (D × D)} {xs : List (NestedKey × Addr × Value)} (p : PX (zx X cls exc) F kvs xs) (ht : (kvs.all fun p => isTup p.1) = true) : ∀ x ∈ xs, s.TypeIs (.ref x.2.1) "tuple" := by
  induction p with
  | nil => exact fun x hx => nomatch hx
  | @cons k v n a vv u r xs h1 h2 h3 h4 h5 hr ih =>
    rw [List.all_cons, Bool.and_eq_true] at ht
    intro x hx
    rcases List.mem_cons.mp hx with z | z
    · subst z
      cases k with
      | tup ds =>
        obtain ⟨q1, q2⟩ := keyOk_tup h1
        have hn := Rep.nested (cls := cls) (exc := exc) I (h3.mono sF) rfl q1
        rw [keyD] at q1
        obtain ⟨ks, _, e⟩ := Option.map_eq_some_iff.mp q1
        subst e
        cases hn with
        | tup g1 g2 g3 _ => exact ⟨_, g1, g2⟩
      | _ => cases h2
    · exact ih ht.2 x z
theorem call_dict_dct (hu : X.A.units + 70 < cLine) {u : Value} {v : V} {kvs : List (D × D)} {Q : VK} (I : Inv X pins σ H s) (sF : Same F H) (ru : RelV v u) (hv : View (zx X cls exc) F H v (.dct kvs)) (ha : apartD kvs = true) (q : ResV (zx X cls exc) F H Q (.own (.dct kvs))) :
    wpAny (model X.prog X.w) X.A (call (.type "dict") [u]) (EP X pins σ Q) X.xe s := by
  obtain ⟨d, o, es, ep, rfl, h, re, nd, hz⟩ := hv
  cases ru
  unfold apartD at ha
  split at ha
  · rename_i hs hh
    have ht := apart_tup hh
    obtain ⟨xs, px, hm⟩ := dct_h I h re sF nd ht
    have hf : H s.heap.objs.size = none := I.hok.fresh (Nat.le_refl _)
    have hsys : (s.heap.objs.size == sysModules) = false := beq_eq_false_iff_ne.mpr (Nat.ne_of_gt I.big)
    have I1 : Inv X pins σ (upd H s.heap.objs.size (dco s.heap.objs.size { cls := .type "dict", data := .dict #[] })) { s with heap := s.heap.push { cls := .type "dict", data := .dict #[] } } := I.laid (t' := s.toks) (fun b u e => Heap.get?_push_of_some _ e) (Nat.le_refl _) (dco_ok (Heap.get?_push_size _ rfl))
    have sF1 : Same F (upd H s.heap.objs.size (dco s.heap.objs.size { cls := .type "dict", data := .dict #[] })) := (New.lst (o := dco s.heap.objs.size { cls := .type "dict", data := .dict #[] }) sF hf).sub
    refine call_dict_heap (knd := nestedKind X.prog X.w) (by show X.A.units + 1 + 1 + 8 < cLine; omega) h.sys hm (px_ty I sF px ht) ?_ (by rw [← px.length]; exact hz) (px_is I1 sF1 px) fun h' hd' hs' => ?_
    · have := apart_hash px hh
      show (xs.map fun x => x.1.hash X.w).Nodup
      rw [this]
      exact of_decide_eq_true ha
    · obtain ⟨o', es', ep', e1, e2, e3, e4, _, _⟩ := hd'
      have hk' : ∀ b o, s.heap.get? b = some o → h'.get? b = some o := fun b ob e => by
        have hb : b ≠ s.heap.objs.size := Nat.ne_of_lt (Heap.lt_size e)
        exact (hs'.2 b hb).trans (Heap.get?_push_of_some _ e)
      refine ⟨.ref s.heap.objs.size, upd H s.heap.objs.size (dco s.heap.objs.size o'), I.laid (t' := s.toks) hk' (Nat.le_refl _) (dco_ok e1), rfl, ?_⟩
      have nn := New.lst (o := dco s.heap.objs.size o') sF hf
      refine q s.heap.objs.size [s.heap.objs.size] F _ nn ⟨rfl, o', es', ep', ⟨upd_same, e2, e3, hsys⟩, ?_, nd, hz⟩ fun b hb => ?_
      · rw [e4]
        exact px.repE
      · rw [List.mem_singleton.mp hb]
        exact ⟨sF.free hf, hf⟩
  · cases ha
theorem call_dictV (hcalm : X.calm = true) (hu : X.A.units + 70 < cLine) : CallR X (.type "dict") (rBlt (zx X cls exc) (bltD .dict)) := by
  intro pins s σ H xs us Q I r ⟨F, ds, res, sF, vs, hd, q⟩
  unfold bltD at hd
  split at hd <;> first | contradiction | skip
  · rename_i kvs _
    split at hd
    · rename_i ha
      cases hd
      obtain ⟨v, rfl, hv⟩ := vs.one
      obtain ⟨u, rfl, ru⟩ := vals1 r
      exact call_dict_dct hu I sF ru hv ha q
    · cases hd
  obtain ⟨kvs, h1, rfl⟩ := Option.map_eq_some_iff.mp hd
  obtain ⟨zs, hz, h2⟩ := Option.bind_eq_some_iff.mp h1
  obtain ⟨ps, hp, hk⟩ := Option.bind_eq_some_iff.mp h2
  obtain ⟨v, rfl, hv⟩ := vs.one
  obtain ⟨u, rfl, ru⟩ := vals1 r
  have hlen : kvs.length ≤ sizeLine := by rw [← lim_line]; exact putKeys_len (Nat.zero_le _) hk
  -- the sequence in the heap
  have hseq : ∃ (T : String) (a : Addr) (rs : List (Addr × Value × Value)), (T = "list" ∨ T = "tuple") ∧ u = .ref a ∧ Rows (zx X cls exc) F s.heap ps rs ∧ (T = "tuple" → ∃ o, s.heap.get? a = some o ∧ o.dict = none) ∧ (∃ o n, s.heap.get? a = some o ∧ o.cls = .type T ∧ (T = "list" → o.dict = none) ∧ o.data = .seq (rs.map fun q => Value.ref q.1).toArray n) ∧ rs.length ≤ sizeLine := by
    unfold seqOf at hz
    split at hz
    · cases hz
      obtain ⟨a, ys, rfl, ha, hr⟩ := hv
      cases ru
      obtain ⟨its, rv, pl, hzz⟩ := I.list (SqL.of ha)
      obtain ⟨rs, hrs, e⟩ := rows_of I sF hp hr rv
      subst e
      obtain ⟨o, n, ho, hc, hdn, hdat⟩ := pl
      refine ⟨"list", a, rs, .inl rfl, rfl, hrs, fun z => absurd z (by decide), ⟨o, n, ho, hc, fun _ => hdn, hdat⟩, ?_⟩
      rw [← hrs.length]
      have := hr.length
      have e2 := rv.length
      rw [List.length_map] at e2
      rw [hrs.length, ← e2]
      exact hzz
    · cases hz
      obtain ⟨a, ys, rfl, ha, hr⟩ := View.tupN hv sF
      cases ru
      obtain ⟨its, rv, ht, hzz⟩ := I.tuple (SqN.sqT ha)
      obtain ⟨rs, hrs, e⟩ := rows_of I sF hp hr rv
      subst e
      obtain ⟨o, ho, hc, n, hdat⟩ := ht
      refine ⟨"tuple", a, rs, .inr rfl, rfl, hrs, fun _ => ?_, ⟨o, n, ho, hc, fun z => absurd z (by decide), hdat⟩, ?_⟩
      · have := (tyW_is (T := "tuple") I (show RelV (.ref a) (.ref a) from rfl) (.inr (.inl ⟨rfl, a, _, rfl, ha⟩))).2 a rfl
        exact this
      · have e2 := rv.length
        rw [List.length_map] at e2
        rw [← e2]
        exact hzz
    · cases hz
  obtain ⟨T, a, rs, hT, rfl, hrs, htd, ⟨o, n, ho, hc, hdl, hdat⟩, hln⟩ := hseq
  -- the argument
  have hdn : o.dict = none := by
    rcases hT with rfl | rfl
    · exact hdl rfl
    · obtain ⟨o2, e1, e2⟩ := htd rfl
      rw [ho] at e1
      cases e1
      exact e2
  let qs : List (Value × Value) := rs.map fun q => q.2
  let Ts : Nat → Addr := fun j => (rs.map (·.1)).getD j 0
  have hP : ∃ fp, PairArg X.prog X.w T a fp [] qs.length (PairRel qs) (fun h => PlainSeq T h a (rs.map fun q => Value.ref q.1).toArray ∧ PairItems h (rs.map fun q => Value.ref q.1).toArray Ts qs) := by
    rcases hT with rfl | rfl
    · exact ⟨_, PairArg.list a _ Ts qs⟩
    · exact ⟨_, PairArg.tuple a _ Ts qs⟩
  obtain ⟨fpp, P⟩ := hP
  have hok : PlainSeq T s.heap a (rs.map fun q => Value.ref q.1).toArray ∧ PairItems s.heap (rs.map fun q => Value.ref q.1).toArray Ts qs := by
    refine ⟨⟨o, n, ho, hc, hdn, hdat⟩, by simp [qs], fun j k v e => ?_⟩
    have hq : ∃ w, rs[j]? = some w ∧ w.2 = (k, v) := by
      simp only [qs, List.getElem?_map] at e
      obtain ⟨w, h1, h2⟩ := Option.map_eq_some_iff.mp e
      exact ⟨w, h1, h2⟩
    obtain ⟨w, h1, h2⟩ := hq
    have hT' : Ts j = w.1 := by simp [Ts, List.getD_eq_getElem?_getD, h1]
    rw [hT']
    refine ⟨by simp [h1], ?_⟩
    have := hrs.at_ j w h1
    rw [h2] at this
    exact this
  have hqn : qs.length = rs.length := by simp [qs]
  -- the end
  have fin : ∀ {h' : Heap} {tk : Nat} {o' : Obj} {es' : Array DictEntry} {ep' : Nat}, (∀ b o, s.heap.get? b = some o → h'.get? b = some o) → h'.get? s.heap.objs.size = some o' → o'.ExactDict → o'.data = .dict es' ep' → RepE (zx X cls exc) F kvs es'.toList → (kvs.map fun p => keyOk p.1).Nodup → EP X pins σ Q (.ref s.heap.objs.size) { s with heap := h', toks := tk } := by
    intro h' tk o' es' ep' hk' e1 ex dt rr nd
    have hf : H s.heap.objs.size = none := I.hok.fresh (Nat.le_refl _)
    have hsys : (s.heap.objs.size == sysModules) = false := beq_eq_false_iff_ne.mpr (Nat.ne_of_gt I.big)
    refine ⟨.ref s.heap.objs.size, upd H s.heap.objs.size (dco s.heap.objs.size o'), I.laid (t' := tk) hk' (Nat.le_refl _) (dco_ok e1), rfl, ?_⟩
    have nn := New.lst (o := dco s.heap.objs.size o') sF hf
    refine q s.heap.objs.size [s.heap.objs.size] F _ nn ⟨rfl, o', es', ep', ⟨upd_same, ex, dt, hsys⟩, rr, nd, hlen⟩ fun b hb => ?_
    rw [List.mem_singleton.mp hb]
    exact ⟨sF.free hf, hf⟩
  by_cases hm : ∀ p ∈ ps, isTup p.1 = false
  · obtain ⟨ks, k1, k2, k3, k4⟩ := rows_leaf hrs .nil List.nodup_nil hm hk
    refine PySem.call_dict_pairs (knd := mixKind X.prog X.w) (kvs := ks) P (I.ok.hd hcalm) hok ⟨by rw [hqn, k1], fun i key v e => ?_⟩ (by rw [hqn]; exact hln) fun h' tk hd' hk' => ?_
    · have e' : qs[i]? = some (key, v) := e
      simp only [qs, List.getElem?_map] at e'
      obtain ⟨w, h1, h2⟩ := Option.map_eq_some_iff.mp e'
      obtain ⟨k, e2, e3⟩ := k2 i w h1
      rw [h2] at e2 e3
      exact ⟨k, e2, e3⟩
    · obtain ⟨o', es', ep', e1, e2, e3, e4, e5, e6⟩ := hd'
      exact fin (fun b o z => hk' b o (by simp) z) e1 e2 e3 (k3.repE e5 fun e he => e4 e (by simpa using he)) k4
  · have hall : ∀ p ∈ ps, isTup p.1 = true := by
      cases ps with
      | nil => exact absurd (fun p h => nomatch h) hm
      | cons p0 ps =>
        obtain ⟨k0, v0⟩ := p0
        have hk' := hk
        unfold putKeys at hk'
        split at hk'
        · rename_i acc' ha
          unfold putKey at ha
          split at ha
          · split at ha
            · cases ha
              have hk0 : ∀ p ∈ ps, isTup p.1 = isTup k0 := make_all (storeD_ne _) (fun q hq => by
                rcases storeD_mem hq with e | ⟨w, hw, _⟩
                · rw [e]
                · exact nomatch hw) hk'
              have ht : isTup k0 = true := by
                cases h0 : isTup k0 with
                | true => rfl
                | false =>
                  refine absurd (fun p hp => ?_) hm
                  rcases List.mem_cons.mp hp with z | z
                  · rw [z]; exact h0
                  · rw [hk0 p z]; exact h0
              intro p hp
              rcases List.mem_cons.mp hp with z | z
              · rw [z]; exact ht
              · rw [hk0 p z]; exact ht
            · cases ha
          · cases ha
        · cases hk'
    obtain ⟨ks, k1, k2, k3, k4, k5⟩ := rows_tup I sF hrs .nil List.nodup_nil hall hk
    refine PySem.call_dict_pairsH (knd := nestedKind X.prog X.w) (ps := ks) P (I.ok.hd hcalm) (by show X.A.units + 1 + 1 + 8 < cLine; omega) hok ⟨by rw [hqn, k1], fun i key v e => ?_⟩ (fun h' hh x hx => ?_) (by rw [hqn]; exact hln) fun h' tk hd' hk' => ?_
    · have e' : qs[i]? = some (key, v) := e
      simp only [qs, List.getElem?_map] at e'
      obtain ⟨w, h1, h2⟩ := Option.map_eq_some_iff.mp e'
      obtain ⟨k, b, e2, e3⟩ := k2 i w h1
      rw [h2] at e2 e3
      exact ⟨k, b, e2, e3⟩
    · exact nestedKind_stays.stays (fun b o vs n hb _ => hh b o (Nat.ne_of_lt (Heap.lt_size hb)) (by simp) hb) (k3 x hx)
    · obtain ⟨o', es', ep', e1, e2, e3, e4, e5, e6⟩ := hd'
      refine fin (fun b o z => hk' b o (by simp) z) e1 e2 e3 ?_ k5
      rw [e4]
      exact k4.repE
end
end VL
end
section
/-! V60: a caught error as data; try with a whole suite. -/
namespace VL
open PySem PySem.Spec PyProof.Rows L2
/-- other caught errors -/
abbrev Zx.wx (Z : Zx) (xl : List (Addr × Addr × Option Addr)) : Zx := ⟨Z.P, Z.w, Z.K, ⟨Z.cls.l, Z.cls.pins, xl⟩, Z.exc⟩
section
variable {Z : Zx} {F F' H H' : Hp} {xl : List (Addr × Addr × Option Addr)}
mutual
theorem Rep.wx (s : ∀ q ∈ Z.cls.xl, q ∈ xl) : ∀ {d : D} {v : V}, Rep Z F d v → Rep (Z.wx xl) F d v
  | _, _, .non => .non
  | _, _, .bl b => .bl b
  | _, _, .int i => .int i
  | _, _, .str x => .str x
  | _, _, .tup h r => .tup h (RepL.wx s r)
  | _, _, .lst h r => .lst h (RepL.wx s r)
  | _, _, .dct h r n z => .dct h (RepE.wx s r) n z
  | _, _, .obj h r => .obj h (RepL.wx s r)
  | _, _, .exn ⟨C, names, d, h1, h2, h3⟩ r => .exn ⟨C, names, d, h1, s _ h2, h3⟩ (RepL.wx s r)
theorem RepL.wx (s : ∀ q ∈ Z.cls.xl, q ∈ xl) : ∀ {ds : List D} {vs : List V}, RepL Z F ds vs → RepL (Z.wx xl) F ds vs
  | _, _, .nil => .nil
  | _, _, .cons h r => .cons (Rep.wx s h) (RepL.wx s r)
theorem RepE.wx (s : ∀ q ∈ Z.cls.xl, q ∈ xl) : ∀ {kvs : List (D × D)} {es : List DictEntry}, RepE Z F kvs es → RepE (Z.wx xl) F kvs es
  | _, _, .nil => .nil
  | _, _, .cons h1 h3 h4 h5 h6 h7 r => .cons h1 h3 h4 (Rep.wx s h5) h6 (Rep.wx s h7) (RepE.wx s r)
end
mutual
theorem Rep.unx : ∀ {d : D} {v : V}, Rep Z F d v → noX d = true → Rep (Z.wx xl) F d v
  | _, _, .non, _ => .non
  | _, _, .bl b, _ => .bl b
  | _, _, .int i, _ => .int i
  | _, _, .str x, _ => .str x
  | _, _, .tup h r, n => .tup h (RepL.unx r n)
  | _, _, .lst h r, n => .lst h (RepL.unx r n)
  | _, _, .dct h r m z, n => .dct h (RepE.unx r n) m z
  | _, _, .obj h r, n => .obj h (RepL.unx r n)
  | _, _, .exn _ _, n => absurd n Bool.false_ne_true
theorem RepL.unx : ∀ {ds : List D} {vs : List V}, RepL Z F ds vs → noXL ds = true → RepL (Z.wx xl) F ds vs
  | _, _, .nil, _ => .nil
  | _, _, .cons h r, n => .cons (Rep.unx h (Bool.and_eq_true_iff.mp n).1) (RepL.unx r (Bool.and_eq_true_iff.mp n).2)
theorem RepE.unx : ∀ {kvs : List (D × D)} {es : List DictEntry}, RepE Z F kvs es → noXE kvs = true → RepE (Z.wx xl) F kvs es
  | _, _, .nil, _ => .nil
  | _, _, .cons h1 h3 h4 h5 h6 h7 r, n =>
    have n1 := (Bool.and_eq_true_iff.mp n).1
    .cons h1 h3 h4 (Rep.unx h5 (Bool.and_eq_true_iff.mp n1).1) h6 (Rep.unx h7 (Bool.and_eq_true_iff.mp n1).2) (RepE.unx r (Bool.and_eq_true_iff.mp n).2)
end
theorem OwnAt.wx (s : ∀ q ∈ Z.cls.xl, q ∈ xl) {p : Addr} {d : D} {fp : List Addr} (h : OwnAt Z F H p d fp) : OwnAt (Z.wx xl) F H p d fp := by
  cases d with
  | lst ds =>
    obtain ⟨rfl, xs, h1, hz, h2⟩ := h
    exact ⟨rfl, xs, h1, hz, h2.wx s⟩
  | dct kvs =>
    obtain ⟨rfl, o, es, ep, h1, h2, h3⟩ := h
    exact ⟨rfl, o, es, ep, h1, h2.wx s, h3⟩
  | obj c ds =>
    obtain ⟨dx, vs, rfl, ho, h1, h2⟩ := h
    exact ⟨dx, vs, rfl, ho, h1, h2.wx s⟩
  | rng gp st cells ix => exact h
  | _ => exact h.elim
theorem OwnAt.unx {p : Addr} {d : D} {fp : List Addr} (h : OwnAt Z F H p d fp) (n : noX d = true) : OwnAt (Z.wx xl) F H p d fp := by
  cases d with
  | lst ds =>
    obtain ⟨rfl, xs, h1, hz, h2⟩ := h
    exact ⟨rfl, xs, h1, hz, h2.unx n⟩
  | dct kvs =>
    obtain ⟨rfl, o, es, ep, h1, h2, h3⟩ := h
    exact ⟨rfl, o, es, ep, h1, h2.unx n, h3⟩
  | obj c ds =>
    obtain ⟨dx, vs, rfl, ho, h1, h2⟩ := h
    exact ⟨dx, vs, rfl, ho, h1, h2.unx n⟩
  | rng gp st cells ix => exact h
  | _ => exact h.elim
theorem noXF_at : ∀ {r : Fr} {i : Nat} {b : Bool} {d : D}, noXF r = true → r[i]? = some (some (b, d)) → noX d = true
  | [], _, _, _, _, h => by simp at h
  | some (b0, d0) :: r, 0, b, d, n, h => by
    simp only [List.getElem?_cons_zero, Option.some.injEq, Prod.mk.injEq] at h
    obtain ⟨_, rfl⟩ := h
    exact (Bool.and_eq_true_iff.mp n).1
  | none :: r, 0, b, d, n, h => by simp at h
  | some (b0, d0) :: r, i + 1, b, d, n, h => noXF_at (r := r) (i := i) (Bool.and_eq_true_iff.mp n).2 (by simpa using h)
  | none :: r, i + 1, b, d, n, h => noXF_at (r := r) (i := i) n (by simpa using h)
theorem Rel.wx (s : ∀ q ∈ Z.cls.xl, q ∈ xl) {r : Fr} {σ : L2.St} {fp : Nat → List Addr} (R : Rel Z r σ F H fp) : Rel (Z.wx xl) r σ F H fp :=
  ⟨R.pin, R.same, R.len, fun i d h => by
    obtain ⟨v, h1, h2⟩ := R.fro i d h
    exact ⟨v, h1, h2.wx s⟩, fun i d h => by
    obtain ⟨p, h1, h2, h3⟩ := R.own i d h
    exact ⟨p, h1, h2.wx s, h3⟩, R.dis⟩
theorem Rel.unx {r : Fr} {σ : L2.St} {fp : Nat → List Addr} (R : Rel Z r σ F H fp) (n : noXF r = true) : Rel (Z.wx xl) r σ F H fp :=
  ⟨R.pin, R.same, R.len, fun i d h => by
    obtain ⟨v, h1, h2⟩ := R.fro i d h
    exact ⟨v, h1, h2.unx (noXF_at n h)⟩, fun i d h => by
    obtain ⟨p, h1, h2, h3⟩ := R.own i d h
    exact ⟨p, h1, h2.unx (noXF_at n h), h3⟩, R.dis⟩
theorem ExR.exn {c : Nat} {fs : List D} {CA : Addr} {d : Option Addr} {a : Addr} (h : ExR Z c fs (.ref CA) d F H) (hx : (a, CA, d) ∈ xl) : Rep (Z.wx xl) F (.exn c fs) (.ref a) ∨ ¬ (∀ q ∈ Z.cls.xl, q ∈ xl) := by
  by_cases s : ∀ q ∈ Z.cls.xl, q ∈ xl
  · left
    obtain ⟨C, names, h1, h2, h3, h4⟩ := h
    cases h2
    rcases h4 with ⟨h4, h5⟩ | ⟨dd, vs, l, q1, q2, q3, q4⟩
    · subst h4
      have : fs = [] := List.length_eq_zero_iff.mp h3
      subst this
      exact .exn (vs := []) ⟨CA, [], d, h1, hx, rfl, .inl ⟨rfl, h5⟩⟩ .nil
    · exact .exn (vs := vs) ⟨CA, names, d, h1, hx, by rw [← q4.length, h3], .inr ⟨dd, l, q1, q2, q3⟩⟩ (q4.wx s)
  · exact .inr s
end
section
variable {X : Cx} {cls : Clz} {exc : List (Addr × List Str)} {W : WX} {G : List Fd} {C : List D} {x nm : Str} {body suite : List Stmt} {b₀ : Stmt} {np0 pos pos' : Pos} {b s : Sts} {cs : List Nat} {j : Nat}
/-- try .. except x as nm: a suite that runs through -/
theorem ps_trxV (hst : X.stack = X.env :: X.outer) (hf : X.env.frame = some X.env.locals) (tk : L2N.Takes X W) (k : CatC X.K X.mg exc x cs) (hg : Gl X x) (hN : X.N.Nodup) (hj : X.N[j]? = some nm) (hln : X.env.kindOf nm = some .local)
    (hb : ∀ (W' : WX) (pn : List (Addr × Obj)) (xe : Value → Shared → Prop), L2N.Takes (X.tr pn xe) W' → PassesOwn (model X.prog X.w) X.A X.env xe → PSs (X.tr pn xe) body (tSs (X.tr pn xe) cls exc W' G C b))
    (hsu : ∀ (a : Addr) (oe : Obj) (CA : Addr) (d : Option Addr) (pn : List (Addr × Obj)), L2N.Zn (.ref CA) d oe → (∃ vs, oe.data = .fields vs) → PSs (X.suite a ((a, oe) :: pn)) (b₀ :: suite) (tSs (X.suite a ((a, oe) :: pn)) ⟨cls.l, cls.pins, (a, CA, d) :: cls.xl⟩ exc (fun _ _ _ _ => False) G C s))
    (hdb : (x == ("__debug__" : Str)) = false := by decide) (np : NoPin cls j := by rfl) :
    PS X (.Try body [.ExceptHandler (some (.Name x np0)) (some nm) (b₀ :: suite) pos'] [] [] pos) (tSt X cls exc W G C (.trx b cs j s)) := by
  obtain ⟨CA, k1, k2⟩ := k.ex
  refine (L2N.ps_try_as (X := X) (x := x) (n := nm) (c := .ref CA) (i := j) (tb := fun W' => tSs X cls exc W' G C b) (ts := fun a cl d D σ H => ∃ CB, cl = .ref CB ∧ tSs X ⟨cls.l, cls.pins, (a, CB, d) :: cls.xl⟩ exc (fun _ _ _ _ => False) G C s D σ H) (Wout := W) hst hf hN hj hln ⟨hg, hdb, .inl k1⟩ tk (fun W' pn xe t pp => hb W' pn xe t pp) (fun a oe cl d pn hz hd => ?_)).cons fun D σ H ⟨r, F, fp, R, g⟩ => ?_
  · refine ⟨fun pins s0 σ H D I ⟨CB, e, t⟩ => ?_⟩
    subst e
    exact (hsu a oe CB d pn hz hd).run pins s0 σ H D I t
  · rw [evS] at g
    refine ⟨r, F, fp, R, ?_⟩
    cases hev : evSs G C b r with
    | nx r1 => rw [hev] at g; exact g
    | rt o d r1 => rw [hev] at g; exact g
    | bad => rw [hev] at g; exact g
    | exc c fs r1 =>
      rw [hev] at g
      dsimp only at g
      intro cl d σ' F' H' fp' x1 R1 ex
      obtain ⟨CB, names, q1, q2, q3⟩ := id ex
      refine ⟨cs.contains c, by rw [q2]; exact k2 c CB names q1, fun hc a ha => ⟨CB, q2, ?_⟩, fun hc => ?_⟩
      · rw [if_pos hc] at g
        split at g
        · rename_i hjl
          subst q2
          have sub : ∀ q ∈ cls.xl, q ∈ (a, CB, d) :: cls.xl := fun q h => List.mem_cons_of_mem _ h
          have rp : Rep ((zx X cls exc).wx ((a, CB, d) :: cls.xl)) F' (.exn c fs) (.ref a) := (ExR.exn ex List.mem_cons_self).resolve_right fun z => z sub
          have R2 := (R1.wx (xl := (a, CB, d) :: cls.xl) sub).setFro j np rp
          refine ⟨_, F', fp', R2, ?_⟩
          cases hs : evSs G C s (r1.set j (some (false, .exn c fs))) with
          | nx r2 =>
            rw [hs] at g
            dsimp only at g
            split at g
            · rename_i hn
              intro σ2 F2 H2 fp2 x2 R3
              have R4 : Rel (zx X cls exc) (r2.set j none) (σ2.set j none) F2 H2 fp2 := Rel.unx (xl := cls.xl) ((R3.drop j).junk none_set np) hn
              refine g (σ2.set j none) F2 H2 fp2 (x1.trans ?_) R4
              exact ⟨x2.sF, fun a o h1 h2 => (x2.new a o h1 h2).imp id (OwnS.set_sub fun _ q => by cases q), fun a o h1 h2 => x2.keep a o h1 fun z => h2 (OwnS.set_sub (fun _ q => by cases q) z), fun a h => (x2.shr a (OwnS.set_sub (fun _ q => by cases q) h)).imp id (OwnS.set_sub fun _ q => by cases q)⟩
            · exact g.elim
          | rt o d r2 => rw [hs] at g; exact g.elim
          | exc c2 fs2 r2 => rw [hs] at g; exact g.elim
          | bad => rw [hs] at g; exact g.elim
        · exact g.elim
      · rw [if_neg (by rw [hc]; decide)] at g
        exact g cl d σ' F' H' fp' x1 R1 ex
end
end VL
end
section
set_option maxHeartbeats 4000000
/-! V61: what is asked of a caught error that a slot holds: isinstance, its fields. -/
namespace VL
open PySem PySem.Spec PyProof.Rows L2
/-- the caught errors stand in the heap, untracked, at each look -/
def LkX (X : Cx) (xl : List (Addr × Addr × Option Addr)) : Prop := ∀ q ∈ xl, ∀ (pins : List (Addr × Obj)) (σ : L2.St) (H : Hp) (s : Shared), Inv X pins σ H s →
  ∃ oe : Obj, s.heap.get? q.1 = some oe ∧ H q.1 = none ∧ oe.cls = .ref q.2.1 ∧ oe.dict = q.2.2 ∧ ∃ vs, oe.data = .fields vs
theorem lk_nil {X : Cx} : LkX X [] := fun _ h => nomatch h
theorem lk_suite {X : Cx} {a CA : Addr} {oe : Obj} {d : Option Addr} {pn : List (Addr × Obj)} (hz : L2.Zc (.ref CA) d oe) (hf : ∃ vs, oe.data = .fields vs) : LkX (X.suite a ((a, oe) :: pn)) [(a, CA, d)] := fun q hq pins σ H s I => by
  rw [List.mem_singleton] at hq
  subst hq
  obtain ⟨h1, h2, _⟩ := I.pin (a, oe) (List.mem_append.mpr (.inl List.mem_cons_self))
  exact ⟨oe, h1, h2, hz.1, hz.2, hf⟩
/-- isinstance of a class, asked of each error -/
structure IsaC (K : PySem.W.Frag) (exc : List (Addr × List Str)) (cu : Value) (cs : List Nat) : Prop where
  ex : ∀ c CB names, exc[c]? = some (CB, names) → L2.ExcC K CB ∧ PySem.W.kitOne K (.ref CB) cu = some (cs.contains c)
def rXis (Z : Zx) (cs : List Nat) (cv : V) : List V → Hp → VK → Prop := fun xs H Q => ∃ F x c fs, xs = [x, cv] ∧ Same F H ∧ Rep Z F (.exn c fs) x ∧ Q (.bl (cs.contains c)) H
section
variable {X : Cx} {cls : Clz} {exc : List (Addr × List Str)} {W : WX} {G : List Fd} {C : List D} {a e : Expr} {xa : Ex} {pos p p2 : Pos} {ts n : Str} {cs : List Nat}
theorem call_xis {cv : V} {cu : Value} (lk : LkX X cls.xl) (k : IsaC X.K exc cu cs) (hcv : ∀ u, RelV cv u → u = cu) : CallR X (.builtin "isinstance") (rXis (zx X cls exc) cs cv) := by
  intro pins s σ H xs us Q I r ⟨F, x, c, fs, hx, e, rp, q⟩
  subst hx
  cases rp with
  | @exn a0 _ vs0 _ h rl =>
    obtain ⟨CB, names, d, h1, h2, h3, h4⟩ := h
    obtain ⟨k3, k4⟩ := k.ex c CB names h1
    match us, r with
    | [u1, u2], .cons rx (.cons rt .nil) =>
      cases rx
      have ec := hcv _ rt
      subst ec
      obtain ⟨oe, g1, g2, g3, g4, vs, g5⟩ := lk _ h2 pins σ H s I
      have J : ∃ ox od, PySem.W.InstAt s.heap a0 ox CB od := by
        have hnc : PySem.W.notCls oe = true := by unfold PySem.W.notCls; rw [g5]
        rcases h4 with ⟨_, h4⟩ | ⟨dd, l, q1, q2, q3⟩
        · exact ⟨oe, none, g1, g3, hnc, by rw [g4, h4]; trivial⟩
        · have ho : ObjOk X.prog X.w H s.heap dd (.xd l) := I.hok dd _ (e _ _ q2)
          obtain ⟨mA, hns, hr⟩ := ho
          obtain ⟨od, ho, _⟩ := lookIn_ns hns
          exact ⟨oe, some od, g1, g3, hnc, by rw [g4, q1]; exact ho⟩
      exact PySem.W.kia_one (PySem.W.vl_kitx_exc k3) I.kIn J k4 (fun z => nomatch z) fun tk => ⟨.bl (cs.contains c), H, I.kept (t' := tk) fun _ _ z => z, rfl, q⟩
theorem xis_conv {cv : V} {tb : TE} (ht : ∀ σ H (Q : VK), Q cv H → tb σ H Q) : ∀ σ H Q, tE X cls exc W G C (.xis cs xa) σ H Q → tE X cls exc W G C xa σ H (fun x H1 => tb σ H1 fun y H2 => rXis (zx X cls exc) cs cv [x, y] H2 Q) := by
  intro σ H Q ⟨r, F, fp, R, g⟩
  rw [evE] at g
  obtain ⟨r0, F0, fp0, R0, g0⟩ := step R (.refl ..) g
  refine ⟨r0, F0, fp0, R0, g0.mono fun x H1 ⟨va, r1, F1, fp1, f1, A1, g1⟩ => ?_⟩
  split at g1
  · rename_i c fs hd
    exact ht _ _ _ ⟨F1, x, c, fs, rfl, A1.R.same, A1.p.view A1.R hd, fro_now g1 A1.e A1.R (.bl _)⟩
  · exact g1.elim
/-- isinstance(e, T), T a class of the program -/
theorem pe_xisV {CA : Addr} (lk : LkX X cls.xl) (hT : X.mg ts = some (.ref CA)) (k : IsaC X.K exc (.ref CA) cs) (hg : Gl X "isinstance") (hm : X.mg "isinstance" = none) (hgt : Gl X ts) (ha : PE X a (tE X cls exc W G C xa)) (hdb : (ts == ("__debug__" : Str)) = false := by decide)
    (he : starEach [a, .Name ts p2] X.env = (false, eval a X.env) :: starEach [.Name ts p2] X.env := by rfl) (hpl : (backTo pos (starEach [.Name ts p2] X.env)).any (·.1) = false := by rfl) : PE X (.Call (.Name "isinstance" p) [a, .Name ts p2] [] pos) (tE X cls exc W G C (.xis cs xa)) := by
  refine (pe_callB (call_xis (cls := cls) (exc := exc) (cv := .ref CA) lk k fun u hu => hu) hg hm PyProof.Rows.boot_isinstance (pa_cons ha (pa_cons (pe_glob (v := .ref CA) hgt hT rfl hdb) pa_nil) he) (by decide) (by decide) he hpl).cons fun σ H Q h => ?_
  exact xis_conv (cv := .ref CA) (tb := fun σ H Q => Q (.ref CA) H) (fun σ H Q q => q) σ H Q h
/-- isinstance(e, T), T a built-in class -/
theorem pe_xisB {ty : String} (lk : LkX X cls.xl) (hmt : X.mg ts = none) (hbt : bootBuiltins ts = some (.type ty)) (k : IsaC X.K exc (.type ty) cs) (hg : Gl X "isinstance") (hm : X.mg "isinstance" = none) (hgt : Gl X ts) (ha : PE X a (tE X cls exc W G C xa)) (hn : ts ≠ "__name__" := by decide) (hdb : (ts == ("__debug__" : Str)) = false := by decide)
    (he : starEach [a, .Name ts p2] X.env = (false, eval a X.env) :: starEach [.Name ts p2] X.env := by rfl) (hpl : (backTo pos (starEach [.Name ts p2] X.env)).any (·.1) = false := by rfl) : PE X (.Call (.Name "isinstance" p) [a, .Name ts p2] [] pos) (tE X cls exc W G C (.xis cs xa)) := by
  refine (pe_callB (call_xis (cls := cls) (exc := exc) (cv := .ty ty) lk k fun u hu => hu) hg hm PyProof.Rows.boot_isinstance (pa_cons ha (pa_cons (pe_bltn (v := .ty ty) hgt hmt hbt rfl hn hdb) pa_nil) he) (by decide) (by decide) he hpl).cons fun σ H Q h => ?_
  exact xis_conv (cv := .ty ty) (tb := fun σ H Q => Q (.ty ty) H) (fun σ H Q q => q) σ H Q h
theorem lookup_const {k k' c : Nat} : ∀ cs : List Nat, (cs.map fun c => (c, k)).lookup c = some k' → c ∈ cs ∧ k' = k
  | [], h => by cases h
  | b :: cs, h => by
    rw [List.map_cons, List.lookup_cons] at h
    split at h
    · rename_i hb
      cases h
      exact ⟨by rw [beq_iff_eq.mp hb]; exact List.mem_cons_self, rfl⟩
    · obtain ⟨h1, h2⟩ := lookup_const cs h
      exact ⟨List.mem_cons_of_mem _ h1, h2⟩
/-- e.f -/
theorem pe_xflV {k : Nat} (lk : LkX X cls.xl) (T : ∀ c ∈ cs, ∀ CA names, exc[c]? = some (CA, names) → XfC X.K CA ∧ PySem.W.findIn X.K (.ref CA) n = some none ∧ names[k]? = some n) (he : PE X e (tE X cls exc W G C xa)) (hb : attributeBase e n X.env (eval e X.env) = eval e X.env := by rfl) :
    PE X (.Attribute e n pos) (tE X cls exc W G C (.xfl (cs.map fun c => (c, k)) xa)) := by
  refine ⟨fun pins s σ H Q I ⟨r, F, fp, R, g⟩ => ?_⟩
  rw [evE] at g
  refine attr_of hb (thn (he.run pins s σ H _ I (step R (.refl ..) g)) fun u s1 ⟨x, H1, I1, rx, va, r1, F1, fp1, f1, A1, g1⟩ => ?_)
  split at g1
  · rename_i c fs hd
    obtain ⟨dd0, hdd, g2⟩ := g1.orBad
    obtain ⟨k', hk, hfs⟩ := Option.bind_eq_some_iff.mp hdd
    obtain ⟨hc, rfl⟩ := lookup_const cs hk
    have rp : Rep (zx X cls exc) F1 (.exn c fs) x := A1.p.view A1.R hd
    cases rp with
    | @exn a0 _ vs0 _ h rl =>
      obtain ⟨CB, names, d, h1, h2, h3, h4⟩ := h
      obtain ⟨t1, t2, t3⟩ := T c hc CB names h1
      obtain rfl : u = Value.ref a0 := rx
      rcases h4 with ⟨h4, _⟩ | ⟨dd, l, q1, q2, q3⟩
      · rw [h4] at t3; cases t3
      · obtain ⟨v, e1, e2⟩ := rl.get hfs
        obtain ⟨oe, g1', g2', g3, g4, vs, g5⟩ := lk _ h2 pins σ H1 s1 I1
        have hx : ObjOk X.prog X.w H1 s1.heap dd (.xd l) := I1.hok dd _ (A1.R.same _ _ q2)
        obtain ⟨mA, hns, hr⟩ := hx
        obtain ⟨od, ho, hl⟩ := lookIn_ns hns
        obtain ⟨u, hu, ru⟩ := RelO.some_of (v := v) (o := mA n) (by rw [← q3 _ n v t3 e1]; exact hr n)
        have J : PySem.W.InstAt s1.heap a0 oe CB (some od) := ⟨g1', g3, by unfold PySem.W.notCls; rw [g5] <;> rfl, by rw [g4, q1]; exact ho⟩
        exact HandSPX.exc_get I1.kIn J t1.ga t1.gg t1.exC (PySem.W.findObj_own t1.hdC t2 rfl (by rw [hl, hu])) (handed_of ru) ⟨v, H1, I1.tok _, ru, fro_now g2 A1.e A1.R e2⟩
  · exact g1.elim
end
end VL
end
section
set_option maxHeartbeats 4000000
/-! V62: a def that is handed a caught error, called from an except suite. -/
namespace VL
open PySem PySem.Spec PyProof.Rows L2
open L2H (RoomH roomH_of)
/-- a promise that may look at the state of the call -/
structure FnOkS (P : Program) (w : World) (K : PySem.W.Frag) (mg : Str → Option Value) (base : Heap) (CX : CXT) (k : Nat) (f : Addr) (fd : FuncData) (ps : List Str) (sp : Shared → Sp) : Prop where
  len : ∀ s vs H Q E, sp s vs H Q E → vs.length = ps.length
  run : ∀ (A : Around) (outer : List Env) (s : Shared) (H : Hp) (args : Args) (us : List Value) (vs : List V) (Q : VK) (E : XK), RoomH k A → Env0 P w K mg base A outer s H → BindsTo s fd args (ps.zip us) → Vals vs us → sp s vs H Q E →
    codeAny (model P w) A (.call (.ref f) args) (CR CX outer P w H s Q E) s
/-- its body's context: whether an error is handled is not known -/
def cxS (CX : CXT) (P : Program) (w : World) (K : PySem.W.Frag) (mg : Str → Option Value) (base : Heap) (N : List Str) (qual : Str) (scope : Scope) (f : Addr) (cd : Value) (A : Around) (outer : List Env) (s : Shared) (H : Hp) (E : XK) : Cx :=
  { cxOf CX P w K mg base N qual scope f cd A outer s H E with calm := false }
theorem inv_startS {CX : CXT} {P : Program} {w : World} {K : PySem.W.Frag} {mg : Str → Option Value} {base : Heap} {N ps : List Str} {qual : Str} {scope : Scope} {f : Addr} {cd : Value} {A : Around} {outer : List Env} {s s1 : Shared} {H : Hp} {E : XK} {us : List Value} {vs : List V}
    (S : FnScope N ps scope) (e0 : Env0 P w K mg base A outer s H) (hl : vs.length = ps.length) (r : Vals vs us)
    (x : InCallC s s.heap.objs.size (bindL (envOfC qual scope s.heap.objs.size f cd).kindOf (ps.zip us) fun _ => none) (cellsFrom (s.heap.objs.size + 1) scope.names []) (bindC (envOfC qual scope s.heap.objs.size f cd).kindOf (ps.zip us) fun _ => none) s1) :
    Inv (cxS CX P w K mg base N qual scope f cd A outer s H E) [] (L2.start N vs) H s1 := by
  have hpl : ps.length ≤ N.length := by have := congrArg List.length S.pre; rw [List.length_take] at this; omega
  obtain ⟨h1, tk, rfl, hk⟩ := x.done
  have noA : ∀ b : Addr, b ∉ (cxS CX P w K mg base N qual scope f cd A outer s H E).ex := fun b z => nomatch (show b ∈ ([] : List Addr) from z)
  have ok : (cxS CX P w K mg base N qual scope f cd A outer s H E).Ok := ⟨e0.mod, S.kind, rfl, rfl, Nat.le_refl _, fun y z c h1 h2 => name_of_addr x.apart (PySem.mem_of_lookup h1) (PySem.mem_of_lookup h2), fun y hy => by
    have hy : scope.names.lookup y = some .cell ∨ scope.names.lookup y = some .free := hy
    rcases hy with hy | hy
    · exact cell_has hy
    · exact absurd rfl (S.nofree _ (PySem.mem_of_lookup hy)), fun y c _ h => Nat.le_of_lt (x.above y c (PySem.mem_of_lookup h)), (fun z => Bool.noConfusion (show false = true from z)), Around.frames_deeper e0.frames, .inr ⟨rfl, rfl⟩, fun b z => absurd z (noA b), e0.bs, e0.bsz, fun b _ _ => noA b, fun b z => absurd z (noA b), e0.funs, e0.frf⟩
  refine ⟨ok, rfl, e0.bare, Un.kept hk, ⟨_, x.toInCall.ns, fun i y v h1 h2 h3 => ?_⟩, fun y c h => ⟨_, x.cell y c h⟩, e0.hok.fresh (Nat.le_refl _), fun y c h => e0.hok.fresh (Nat.le_of_lt (x.above y c (PySem.mem_of_lookup h))), (fun q hq => nomatch (show q ∈ ([] : List (Addr × Obj)) from hq)), e0.hok.kept hk, ?_⟩
  · have hi : i < vs.length := by
      unfold L2.start at h2
      by_cases hi : i < vs.length
      · exact hi
      · rw [List.getElem?_append_right (by simpa using hi), List.getElem?_replicate] at h2
        split at h2 <;> cases h2
    have ha : vs[i]? = some v := by
      unfold L2.start at h2
      rw [List.getElem?_append_left (by simpa using hi), List.getElem?_map, Option.map_eq_some_iff] at h2
      obtain ⟨a, e1, e2⟩ := h2
      cases e2
      exact e1
    obtain ⟨u, hu, rv⟩ := r.get ha
    have hp : ps[i]? = some y := by
      rw [← S.pre, List.getElem?_take_of_lt (by omega)]; exact h1
    have ndP : ps.Nodup := by rw [← S.pre]; exact S.nd.sublist (List.take_sublist _ _)
    refine ⟨u, rv, ?_⟩
    rcases S.par y (List.mem_of_getElem? hp) with k | k
    · exact .inl ⟨k, bindL_get ndP hp hu k⟩
    · obtain ⟨c, e⟩ := cell_has (n := s.heap.objs.size + 1) k
      have q := x.cell y c e
      rw [bindC_get ndP hp hu (by show scope.names.lookup y ≠ _; rw [k]; decide)] at q
      exact .inr ⟨.inl k, c, e, q⟩
  · show (L2.start N vs).length = N.length
    unfold L2.start
    rw [List.length_append, List.length_map, List.length_replicate]
    omega
theorem fn_ofS {CX : CXT} {P : Program} {w : World} {K : PySem.W.Frag} {mg : Str → Option Value} {base : Heap} {k : Nat} {f : Addr} {name qual : Str} {params : Arguments} {body : List Stmt} {scope : Scope} {dV kV doc pm cdv ct oc : Value} {an od : Option Addr}
    {osl : Array (Option Value)} {N ps : List Str} {sp : Shared → Sp} (lk : K.lookup f = some ⟨oc, od, .func (PySem.W.fnOf name qual params body scope dV kV doc pm an cdv ct), osl⟩) (hcd : PySem.W.codeIn K cdv qual = true) (S : FnScope N ps scope)
    (len : ∀ s vs H Q E, sp s vs H Q E → vs.length = ps.length)
    (hbody : ∀ (A : Around) (outer : List Env) (s : Shared) (H : Hp) (vs : List V) (Q : VK) (E : XK), RoomH k (A.deeper (envOfC qual scope s.heap.objs.size f cdv)) → sp s vs H Q E →
      ∃ t, PSs (cxS CX P w K mg base N qual scope f cdv A outer s H E) body t ∧ t { nx := fun _ H' => Q .non H', rt := Q } (L2.start N vs) H) :
    FnOkS P w K mg base CX (k + 1) f (PySem.W.fnOf name qual params body scope dV kV doc pm an cdv ct) ps sp := by
  refine ⟨len, fun A outer s H args us vs Q E hr e0 hb r hsp => ?_⟩
  have KX : K.In s.heap := e0.mod.kin.keeps fun b o e => (e0.bs b o e).1
  have hkind : ∀ y ∈ ps.zip us, scope.names.lookup y.1 = some .local ∨ (scope.names.lookup y.1 = some .cell ∧ ((cellsFrom (s.heap.objs.size + 1) scope.names []).lookup y.1).isSome = true) := fun ⟨n, v⟩ hy =>
    (S.par n (List.of_mem_zip hy).1).imp id fun q => ⟨q, PySem.W.cellsFrom_some _ _ _ (.inl q)⟩
  refine codeAny_call_function hr.depth (KX _ _ lk) rfl S.co S.gen rfl (PySem.W.codeRec_of KX hcd) (hb _ _ _ _ (wpAny_newFunctionEnv_cells S.kind hkind fun env he s1 x => ?_))
  subst he
  refine ⟨(e0.mod.nolimit.keeps fun b o e => (e0.bs b o e).1).keeps x.toInCall.keep, codeAny_func ?_⟩
  obtain ⟨t, ht, hq⟩ := hbody A outer s H vs Q E (hr.deeper _) hsp
  have fin : ∀ {σ' : L2.St} {H' : Hp} {v : V} {u : Value} {s' : Shared}, Inv (cxS CX P w K mg base N qual scope f cdv A outer s H E) [] σ' H' s' → RelV v u → Q v H' → CE outer P w H s Q u s' :=
    fun {σ' H' v u s'} J rv q => ⟨v, H', J.os, J.bare, J.base, J.hok, rv, q⟩
  refine wpAny_mono (ht.run [] s1 (L2.start N vs) H _ (inv_startS S e0 (len _ _ _ _ _ hsp) r x) hq) (fun fl s' hs => ?_) fun e s' hs => hs
  match fl, hs with
  | .ret u, ⟨v, σ', H', J, rv, q⟩ => exact fin J rv q
  | .next, ⟨σ', H', J, q⟩ => exact fin (v := V.non) (u := Value.none) J rfl q
  | .brk, ⟨_, _, _, q⟩ => exact False.elim q
  | .cont, ⟨_, _, _, q⟩ => exact False.elim q
/-- the caught errors stand in the heap, now -/
def LkS (s : Shared) (H : Hp) (xl : List (Addr × Addr × Option Addr)) : Prop := ∀ q ∈ xl, ∃ oe : Obj, s.heap.get? q.1 = some oe ∧ H q.1 = none ∧ oe.cls = .ref q.2.1 ∧ oe.dict = q.2.2 ∧ ∃ vs, oe.data = .fields vs
def spVS (P : Program) (w : World) (K : PySem.W.Frag) (cls : List Zc) (exc : List (Addr × List Str)) (fd : Fd) : Shared → Sp := fun s vs H Q E => ∃ xl, LkS s H xl ∧ spV ⟨P, w, K, ⟨cls, [], xl⟩, exc⟩ fd vs H Q E
section
variable {P : Program} {w : World} {K : PySem.W.Frag} {mg : Str → Option Value} {base : Heap} {exc : List (Addr × List Str)} {G : List Fd} {C : List D}
theorem takesS {N : List Str} {qual : Str} {scope : Scope} {f : Addr} {cd : Value} {A : Around} {outer : List Env} {s : Shared} {H : Hp} {E : XK} : L2N.Takes (cxS (L2N.CX P w) P w K mg base N qual scope f cd A outer s H E) (fun c d _ H' => E c d H') := L2N.takes_of rfl rfl rfl rfl
theorem lk_callee {N : List Str} {qual : Str} {scope : Scope} {f : Addr} {cd : Value} {A : Around} {outer : List Env} {s : Shared} {H : Hp} {E : XK} {CX : CXT} {xl : List (Addr × Addr × Option Addr)} (h : LkS s H xl) : LkX (cxS CX P w K mg base N qual scope f cd A outer s H E) xl := fun q hq pins σ H' s' I => by
  obtain ⟨oe, h1, h2, h3, h4, h5⟩ := h q hq
  have noA : q.1 ∉ (cxS CX P w K mg base N qual scope f cd A outer s H E).ex := fun z => nomatch (show q.1 ∈ ([] : List Addr) from z)
  obtain ⟨sl, e⟩ := I.base.any h1 h2 noA
  exact ⟨_, e, I.base.free q.1 oe h1 h2 noA, h3, h4, h5⟩
/-- a def that nothing is lent to -/
theorem fnVS {x qual : Str} {params : Arguments} {body : List Stmt} {scope : Scope} {f : Addr} {fd : FuncData} {N ps : List Str} {k : Nat} {fn : Fd} {b : Sts} {cls : List Zc} (F : FunD K x qual params body scope [] [] f fd) (S : FnScope N ps scope) (hnp : fn.np = ps.length) (hl : fn.lent = []) (hsem : fn.sem = runF G C fn.lent fn.np N.length b)
    (walk : ∀ (xl : List (Addr × Addr × Option Addr)) (cdv : Value) (A : Around) (outer : List Env) (s : Shared) (H : Hp) (E : XK), RoomH k (A.deeper (envOfC qual scope s.heap.objs.size f cdv)) → LkX (cxS (L2N.CX P w) P w K mg base N qual scope f cdv A outer s H E) xl →
      PSs (cxS (L2N.CX P w) P w K mg base N qual scope f cdv A outer s H E) body (tSs (cxS (L2N.CX P w) P w K mg base N qual scope f cdv A outer s H E) ⟨cls, [], xl⟩ exc (fun c d _ H' => E c d H') G C b)) :
    FnOkS P w K mg base (L2N.CX P w) (k + 1) f fd ps (spVS P w K cls exc fn) := by
  obtain ⟨oc, od, dV, kV, doc, pm, an, cdv, ct, osl, rfl, lk, hcd, _, _⟩ := F.ex
  refine fn_ofS lk hcd S (fun s vs H Q E ⟨_, _, h⟩ => by rw [h.1, hnp]) fun A outer s H vs Q E hr ⟨xl, hx, h⟩ => ?_
  obtain ⟨hv, ds, F0, fp, hd, R, g⟩ := h
  rw [hsem] at g
  unfold runF at g
  rw [if_pos hd] at g
  have h0 : pinsL fn.lent 0 = [] := by rw [hl]; rfl
  have g1 := end_ok (Z := ⟨P, w, K, ⟨cls, [], xl⟩, exc⟩) (p0 := 0) (k := N.length - fn.np) (.inl hl) (fun z => by rw [hl] at z; cases z) g
  rw [h0] at g1
  have R1 := R.pad (N.length - fn.np)
  rw [← hv] at R1 g1
  refine ⟨_, walk xl cdv A outer s H E hr (lk_callee hx), ?_⟩
  exact ⟨entryF fn.lent ds ++ List.replicate (N.length - vs.length) none, F0, fp, R1, g1⟩
/-- by name -/
structure CalS (P : Program) (w : World) (K : PySem.W.Frag) (mg : Str → Option Value) (base : Heap) (cls : List Zc) (exc : List (Addr × List Str)) (x : Str) (k : Nat) (fn : Fd) : Prop where
  ex : ∃ (f : Addr) (fd : FuncData) (ps : List Str), FnOkS P w K mg base (L2N.CX P w) k f fd ps (spVS P w K cls exc fn) ∧ PySem.W.keepIn K (.ref f) = true ∧ Binds K fd ps [] ∧ mg x = some (.ref f)
end
section
variable {X : Cx} {cls : Clz} {exc : List (Addr × List Str)} {W : WX} {G : List Fd} {C : List D} {e : Expr} {es : List Expr} {xs : Ar}
theorem hu_ofH {k : Nat} (hr : RoomH k X.A) : X.A.units + 70 < cLine := by have := hr.un; omega
theorem calm_ok {Z : Zx} {σ : L2.St} {b : Bs} {Q : VK} {m : Res Vl} (g : GdG Z σ (PVl Z σ) b W Q m.calm) : GdG Z σ (PVl Z σ) b (fun _ _ _ _ => False) Q m := by
  cases m with
  | ok x r => exact g
  | exc c fs r => exact g.elim
  | bad => exact g
theorem pe_calxV {k n j : Nat} {fn : Fd} {x : Str} {p pos : Pos} (lk : LkX X cls.xl) (c : CalS X.prog X.w X.K X.mg X.base cls.l exc x k fn) (hr : RoomH n X.A) (hkn : k ≤ n) (hg : Gl X x)
    (hG : G[j]? = some fn) (hl : fn.lent = []) (ha : PA X (e :: es) (tA X cls exc W G C xs)) (hdb : (x == ("__debug__" : Str)) = false := by decide) (he : starEach (e :: es) X.env = (false, eval e X.env) :: starEach es X.env := by rfl) (hpl : (backTo pos (starEach es X.env)).any (·.1) = false := by rfl) :
    PE X (.Call (.Name x p) (e :: es) [] pos) (tE X cls exc W G C (.calx j xs)) := by
  obtain ⟨f, fd, ps, F, hk, hb, hm⟩ := c.ex
  refine ⟨fun pins s σ H Q I ⟨r, F0, fp, R, g⟩ => ?_⟩
  rw [evE] at g
  obtain ⟨r0, F1, fp0, R0, g0⟩ := stepA R (.refl ..) g
  refine wpAny_Call_Name_kw (ld_glob I hg hm ?_ hdb)
  refine PySem.W.callWith_K (h₀ := X.base) I.ok.mod.kin hk (thn (ha.run pos pins s σ H _ I ⟨r0, F1, fp0, R0, g0⟩) fun us s1 ⟨ys, H1, I1, rv, vs, r1, F2, fp1, f1, A1, g1⟩ => ⟨I1.kIn, ?_⟩) he hpl
  have g2 := calm_ok g1
  obtain ⟨fd', hfd, g3⟩ := g2.orBad
  rw [hG] at hfd
  cases hfd
  have sp : spVS X.prog X.w X.K cls.l exc fn s1 ys H1 Q (fun _ _ _ => False) := ⟨cls.xl, fun q hq => lk q hq pins σ H1 s1 I1, call_none (Z := zx X cls exc) hl A1 (.refl ..) g3⟩
  have hlen : us.length = ps.length := by rw [← rv.length]; exact F.len _ _ _ _ _ sp
  have bd := hb s1 us I1.kIn (by rw [List.append_nil]; exact hlen)
  rw [List.append_nil] at bd
  refine wpAny_call (codeAny_mono (F.run X.A X.stack s1 H1 ⟨us, []⟩ us ys Q (fun _ _ _ => False) ⟨by have := hr.dp; omega, by have := hr.un; omega⟩ I1.env0 bd rv sp) fun rr s' hq => ?_)
  match rr, hq with
  | .error e, hq => exact pass_false pins σ H1 s1 e s' I1 hq
  | .ok (.ret u), hq => exact I1.after hq
end
end VL
end
section
set_option maxHeartbeats 4000000
/-! V63: what a walk takes by name, of caught errors. -/
namespace VL
open PySem PySem.Spec PyProof.Rows L2
open L2H (RoomH roomH_of)
theorem room_suite {X : Cx} {k : Nat} {a : Addr} {pn : List (Addr × Obj)} (hr : Room k X.A) : RoomH k (X.suite a pn).A := ⟨hr.dp, hr.un⟩
theorem takes_noneN {X : Cx} : L2N.Takes X (fun _ _ _ _ => False) := fun _ _ ⟨_, _, _, _, _, _, _, _, _, _, _, _, _, _, _, _, w⟩ => w.elim
theorem hu_raw {k : Nat} {A : Around} (hr : Room k A) : A.units + 70 < cLine := by have := hr.un; omega
/-- a class of the program, asked of each error -/
structure IsaM (K : PySem.W.Frag) (mg : Str → Option Value) (exc : List (Addr × List Str)) (x : Str) (cs : List Nat) : Prop where
  ex : ∃ CA : Addr, mg x = some (.ref CA) ∧ IsaC K exc (.ref CA) cs
section
variable {X : Cx} {cls : Clz} {exc : List (Addr × List Str)} {W : WX} {G : List Fd} {C : List D} {a e : Expr} {xa : Ex} {pos p p2 : Pos} {ts n : Str} {cs : List Nat}
theorem pe_xisM (lk : LkX X cls.xl) (k : IsaM X.K X.mg exc ts cs) (hg : Gl X "isinstance") (hm : X.mg "isinstance" = none) (hgt : Gl X ts) (ha : PE X a (tE X cls exc W G C xa)) (hdb : (ts == ("__debug__" : Str)) = false := by decide)
    (he : starEach [a, .Name ts p2] X.env = (false, eval a X.env) :: starEach [.Name ts p2] X.env := by rfl) (hpl : (backTo pos (starEach [.Name ts p2] X.env)).any (·.1) = false := by rfl) : PE X (.Call (.Name "isinstance" p) [a, .Name ts p2] [] pos) (tE X cls exc W G C (.xis cs xa)) := by
  obtain ⟨CA, h1, h2⟩ := k.ex
  exact pe_xisV lk h1 h2 hg hm hgt ha hdb he hpl
theorem pe_xflC {k : Nat} (lk : LkX X cls.xl) (T : FldC X.K exc cs n k) (he : PE X e (tE X cls exc W G C xa)) (hb : attributeBase e n X.env (eval e X.env) = eval e X.env := by rfl) :
    PE X (.Attribute e n pos) (tE X cls exc W G C (.xfl (cs.map fun c => (c, k)) xa)) := pe_xflV lk T.ex he hb
end
section
variable {K : PySem.W.Frag} {mg : Str → Option Value} {x : Str}
theorem isaB_ok {es : List (Addr × List Str)} {cu : Value} {cs : List Nat} : ∀ {n : Nat}, isaB K es cu cs n = true → ∀ c, c < n → ∀ CB names, es[c]? = some (CB, names) → L2.ExcC K CB ∧ PySem.W.kitOne K (.ref CB) cu = some (cs.contains c)
  | n + 1, h, c, hc, CB, names, he => by
    unfold isaB at h
    rw [Bool.and_eq_true] at h
    by_cases hn : c = n
    · subst hn
      have h2 := h.2
      rw [he] at h2
      dsimp only at h2
      rw [Bool.and_eq_true] at h2
      exact ⟨excCB_ok h2.1, of_decide_eq_true h2.2⟩
    · exact isaB_ok h.1 c (by omega) CB names he
theorem isaC_of {es : List (Addr × List Str)} {cu : Value} {cs : List Nat} (h : isaB K es cu cs es.length = true) : IsaC K es cu cs := ⟨fun c CB names he => isaB_ok h c (List.getElem?_eq_some_iff.mp he).1 CB names he⟩
theorem isaM_of {es : List (Addr × List Str)} {CA : Addr} {cs : List Nat} (hm : mg x = some (.ref CA)) (h : isaB K es (.ref CA) cs es.length = true) : IsaM K mg es x cs := ⟨⟨CA, hm, isaC_of h⟩⟩
end
end VL
end
section
set_option maxHeartbeats 4000000
/-! V64: a list comprehension over a range while an error is handled. -/
namespace L2
open PySem PySem.Spec PyProof.Rows
open L2H (HotC Hot1 PIH TurnH)
/-- the block's context, the handled error pinned -/
abbrev blkP (X : Cx) (s : Shared) (H : Hp) (scope : Scope) (cenv : Env) (fp : List Addr) (p : Addr × Obj) : Cx := (X.blk s H scope cenv fp).tr [p] (fun _ _ => False)
section
variable {X : Cx}
theorem pe_lcH {elt tg iter : Expr} {ifs : List Expr} {scope : Scope} {own : List (Str × Nat)} {pos : Pos} {wi : TI} {g : TG} {tt : TT} {te : TE} {p : Addr × Obj} (hot : Hot1 X.A p) (hp : p ∈ X.pn) (hN : X.N.Nodup) (hi : PIH X tg iter wi) (ok : BlkOk X.N X.env.scope scope own)
    (hg : ∀ (s : Shared) (H : Hp) (C : Addr) (cl : List (Str × Addr)) (fp : List Addr), PG (blkP X s H scope (compEnvC scope cl C X.env) fp p) tg g) (ht : ∀ (s : Shared) (H : Hp) (C : Addr) (cl : List (Str × Addr)) (fp : List Addr), PTs (blkP X s H scope (compEnvC scope cl C X.env) fp p) ifs tt)
    (he : ∀ (s : Shared) (H : Hp) (C : Addr) (cl : List (Str × Addr)) (fp : List Addr), PE (blkP X s H scope (compEnvC scope cl C X.env) fp p) elt te) (hs : ∀ x, foldedSetIterable iter X.env x = pure x := by intro _; rfl) :
    PE X (.ListComp elt [⟨tg, iter, ifs, 0⟩] scope pos) (tLc wi g tt te (own.map (·.2))) := by
  refine ⟨fun pins s σ H Q I h => ?_⟩
  rw [eval_ListComp]
  have hfree : ∀ y ∈ scope.names, y.2 = .free → ∃ c, X.env.cells.lookup y.1 = some c := fun y hy e => (ok.free y hy e).elim (fun k => I.ok.has _ (.inl k)) fun k => I.ok.has _ (.inr k)
  refine wpAny_comprehension_free rfl hs (closure_ok hfree) ok.kind (fun y hy e => by rw [ok.uniq y hy, e]) (thn (hi.run pins s σ H _ I h) fun xv s1 hx => thn hx fun itv s2 h2 => ?_)
  obtain ⟨it, fp, tn, J, H2, e, I2, T, st2, f2, q⟩ := h2
  subst e
  refine wpAny_newObj_type (newEnv_comp ?_) (by show 0 ≤ sizeLine; decide)
  -- the list stands at D
  generalize hD : s2.heap.objs.size = D
  have nD : H2 D = none := I2.hok.fresh (Nat.le_of_eq hD)
  obtain ⟨W, ⟨m0, w0⟩, turn⟩ := q D nD
  generalize hs3 : ({ s2 with heap := s2.heap.push { cls := .type "list", data := .seq ([] : List Value).toArray } } : Shared) = s3
  have h3 : s3.heap = s2.heap.push { cls := .type "list", data := .seq ([] : List Value).toArray } := by rw [← hs3]
  have up3 : ∀ b o, s2.heap.get? b = some o → s3.heap.get? b = some o := fun b o z => by rw [h3]; exact Heap.get?_push_of_some _ z
  generalize hH3 : upd H2 D (.lst []) = H3 at w0
  have I3 : Inv X pins σ H3 s3 := by
    rw [← hs3, ← hH3]
    refine I2.laid (t' := s2.toks) (fun b o z => Heap.get?_push_of_some _ z) (Nat.le_of_eq hD) ⟨Nat.zero_le _, [], 0, .nil, ?_⟩
    rw [← hD]
    exact Heap.get?_push_size _ rfl
  have lt2 : ∀ b ∈ fp, b < s2.heap.objs.size := fun b hb => by
    obtain ⟨o, z, _⟩ := T.obj _ _ st2 b hb
    exact Heap.lt_size z
  have f3 : ∀ b ∈ fp, FpOk X pins H3 b ∧ b < s3.heap.objs.size := fun b hb => by
    have hlt := lt2 b hb
    refine ⟨⟨?_, (f2 b hb).2⟩, by rw [h3, Heap.size_push]; exact Nat.lt_succ_of_lt hlt⟩
    rw [← hH3, upd_ne (by rw [← hD]; exact Nat.ne_of_lt hlt)]
    exact (f2 b hb).1
  have nfp : ∀ b ∈ fp, H3 b = none := fun b hb => (f3 b hb).1.1
  have st3 : tn 0 s3.heap := T.keep _ _ _ st2 fun b _ o z => up3 b o z
  have I4 := block_start I3 ok hN f3
  obtain ⟨p1, p2, p3, p4, p5⟩ := I3.pin p (List.mem_append_left _ hp)
  show codeAny _ _ (.compStart (.ListComp elt [⟨tg, iter, ifs, 0⟩] scope pos) 0 (.ref it) (.ref D) (compEnvC scope (cellsFrom (s3.heap.objs.size + 1) scope.names (cloFrom X.env.cells scope.names [])) s3.heap.objs.size X.env)) (compPost (model X.prog X.w) X.A X.xe none (EP X pins σ Q) (.ref D) s3.heap.objs.size) { s3 with heap := pushCells (s3.heap.push { cls := .type "dict", data := .dict #[] }) scope.names }
  generalize hcl : cellsFrom (s3.heap.objs.size + 1) scope.names (cloFrom X.env.cells scope.names []) = cl at I4 ⊢
  have pg := hg s3 H3 s3.heap.objs.size cl fp
  have pt := ht s3 H3 s3.heap.objs.size cl fp
  have pe := he s3 H3 s3.heap.objs.size cl fp
  generalize hce : compEnvC scope cl s3.heap.objs.size X.env = ce at I4 pg pt pe ⊢
  have cL : ce.locals = s3.heap.objs.size := by subst hce; rfl
  generalize hs4 : ({ s3 with heap := pushCells (s3.heap.push { cls := .type "dict", data := .dict #[] }) scope.names } : Shared) = s4 at I4 ⊢
  have up4 : ∀ b o, s3.heap.get? b = some o → s4.heap.get? b = some o := fun b o z => by rw [← hs4]; exact pushCells_keeps _ _ _ _ (Heap.get?_push_of_some _ z)
  -- the block, the handled error pinned
  have J4 : Inv (blkP X s3 H3 scope ce fp p) [] (wipe σ (own.map (·.2))) H3 s4 := by
    refine Inv.toTry (X := X.blk s3 H3 scope ce fp) (pins := [p]) (I4.pins_of fun r hr => ?_) (fun _ _ => False)
    rw [List.mem_singleton] at hr
    subst hr
    exact ⟨up4 _ _ p1, p2, by show _ ≠ ce.locals; rw [cL]; exact Nat.ne_of_lt (Heap.lt_size p1), fun hm => (List.mem_cons.mp (I3.stkSub _ hm)).elim p3 p4, p5⟩
  have hotY : HotC (blkP X s3 H3 scope ce fp p) := ⟨p, hot, List.mem_singleton.mpr rfl⟩
  have st4 : tn 0 s4.heap := T.keep _ _ _ st3 fun b _ o z => up4 b o z
  have stat : ∀ {σ' : St} {H' : Hp} {s' : Shared}, Inv (blkP X s3 H3 scope ce fp p) [] σ' H' s' → (∀ b ∈ fp, H' b = none) → ∀ b ∈ fp, FpOk (blkP X s3 H3 scope ce fp p) [] H' b := fun {σ' H' s'} I' hn b hb =>
    ⟨hn b hb, (I'.ok.exf b hb).1, I'.ok.exfs b hb, .inl hb, fun x c z => (I'.ok.exf b hb).2 x c z, fun r hr => by
      have hr' : r = p := by simpa using (show r ∈ [p] ++ ([] : List (Addr × Obj)) from hr)
      rw [hr']
      exact (f3 b hb).1.2.2.2.2.2 p (List.mem_append_left _ hp)⟩
  have loop : codeAny (model X.prog X.w) X.A (.compLoop (.ListComp elt [⟨tg, iter, ifs, 0⟩] scope pos) 0 (.ref it) (.ref D) ce) (compPost (model X.prog X.w) X.A X.xe none (EP X pins σ Q) (.ref D) s3.heap.objs.size) s4 := by
    refine compLoop_any (fun n s' => ∃ i H', Inv (blkP X s3 H3 scope ce fp p) [] (wipe σ (own.map (·.2))) H' s' ∧ tn i s'.heap ∧ (∀ b ∈ fp, H' b = none) ∧ W i n H') ?_ m0 ⟨0, H3, J4, st4, nfp, w0⟩
    rintro n s5 ⟨i, H5, I5, st5, n5, w5⟩
    rcases turn i n H5 w5 with ⟨stop, qq⟩ | ⟨go, Nx, hNx, step⟩
    · refine thnF (T.done (blkP X s3 H3 scope ce fp p) rfl rfl rfl hotY i [] s5 _ H5 (fun _ _ => False) I5 (stat I5 n5) st5 stop) fun r s6 ⟨hr, I6⟩ => ?_
      subst hr
      have I7 : Inv X pins σ H5 s6 := I3.call' (ch := fp) I6.os I6.base I6.hok I6.bare fun b hb => ⟨(f3 b hb).1.2.2.2.1, (f3 b hb).1.2.1, (f3 b hb).1.2.2.2.2.1, (f3 b hb).1.2.2.2.2.2⟩
      have nC : H5 s3.heap.objs.size = none := by
        rw [← cL]
        exact I6.free
      obtain ⟨m, hn, _⟩ := I6.loc
      have hn : s6.heap.Ns ce.locals m := hn
      rw [cL] at hn
      obtain ⟨g0, g1, g2, g3, g4, g5⟩ := I3.fpOk (H' := H5) (Nat.le_refl _) nC
      exact ⟨m, hn, fun h'' sb => ⟨.ref D, H5, I7.turned (t' := s6.toks) (fun b o hb z => (sb.2 b hb).trans z) g0 g1 g3 g4 g5, rfl, qq⟩⟩
    · refine thnF (T.item (blkP X s3 H3 scope ce fp p) rfl rfl rfl hotY i [] s5 _ H5 (fun _ _ => False) I5 (stat I5 n5) st5 go) fun r s6 ⟨u, hr, h6⟩ => ?_
      subst hr
      refine thnF h6 fun _ s7 ⟨x, H7, I7, r7, y7, st7, n7⟩ => ?_
      refine thnF (pg.run _ s7 _ H7 x u _ (I7.pinned (stat I7 n7) (T.obj _ _ st7)) r7 (step x H7 y7)) fun _ s8 ⟨σ8, H8, I8, hw8, q8⟩ => ?_
      refine thnF (pt.run _ s8 σ8 H8 _ I8 q8) fun b s9 ⟨H9, I9, q9⟩ => ?_
      have fin : ∀ {s' : Shared} {H' : Hp}, Inv (blkP X s3 H3 scope ce fp p) ([] ++ pinsAt fp s7.heap) σ8 H' s' → Nx H' → ∃ m, m < n ∧ ∃ i H', Inv (blkP X s3 H3 scope ce fp p) [] (wipe σ (own.map (·.2))) H' s' ∧ tn i s'.heap ∧ (∀ b ∈ fp, H' b = none) ∧ W i m H' := fun {s' H'} I' nx => by
        obtain ⟨m', hm, w'⟩ := hNx H' nx
        have still : ∀ b ∈ fp, ∀ o, s7.heap.get? b = some o → s'.heap.get? b = some o ∧ H' b = none := fun b hb o z =>
          have y := I'.pin (b, o) (List.mem_append_right _ (List.mem_append_right _ (mem_pinsAt hb z)))
          ⟨y.1, y.2.1⟩
        refine ⟨m', hm, i + 1, H', (I'.unpinned (pins := [])).weak (by rw [← hw8, wipe_length]) (fun j v z => ?_), T.keep _ _ _ st7 fun b hb o z => (still b hb o z).1, fun b hb => ?_, w'⟩
        · rw [← hw8] at z
          exact (wipe_some z).1
        · obtain ⟨o, z, _⟩ := T.obj _ _ st7 b hb
          exact (still b hb o z).2
      cases b with
      | false =>
        simp only [Bool.false_eq_true, if_false] at q9 ⊢
        exact fin I9 q9
      | true =>
        simp only [if_true] at q9 ⊢
        refine thnF (pe.run _ s9 σ8 H9 _ I9 q9) fun z s10 ⟨yv, H10, I10, r10, acc, hD10, hz10, nx⟩ => ?_
        exact app_ok (X := blkP X s3 H3 scope ce fp p) I10 hD10 hz10 r10 fun s11 I11 => fin I11 nx
  exact codeAny_compStart_list loop (T.self X.A 0 _ _ _ st4 loop)
end
end L2
namespace VL
open PySem PySem.Spec PyProof.Rows L2
open L2H (HotC Hot1 PIH pi_range1H)
section
variable {X : Cx} {cls : Clz} {exc : List (Addr × List Str)} {W : WX} {G : List Fd} {C : List D} {a elt tg : Expr} {ifs : List Expr} {xa xe : Ex} {t : Tg} {tst : Oe} {pos p0 cpos : Pos} {scope : Scope} {ownN : List (Str × Nat)}
/-- range(n) -/
theorem pi_rng1H (hg : Gl X "range") (hm : X.mg "range" = none) (ha : PE X a (tE X cls exc W G C xa)) (hs : starEach [a] X.env = [(false, eval a X.env)] := by rfl) : PIH X tg (.Call (.Name "range" p0) [a] [] pos) (tIt X cls exc W G C false (.range1 xa)) := by
  refine ⟨fun pins s σ H R I ⟨r, F, fp, RR, g⟩ => (pi_range1H hg hm (pa_cons ha pa_nil hs) hs).run pins s σ H R I ?_⟩
  rw [evI] at g
  obtain ⟨r0, F0, fp0, R0, g0⟩ := step (P' := PIt (zx X cls exc) false) RR (.refl ..) g
  refine ⟨r0, F0, fp0, R0, g0.mono fun x H1 ⟨va, r1, F1, fp1, f1, A1, g1⟩ => ?_⟩
  split at g1
  · rename_i n hn
    obtain ⟨ds, hds, g2⟩ := g1.orBad
    have hx := A1.p.view A1.R hn
    cases hx
    have ok := (rng_rep (Z := zx X cls exc) (F := F1) hds).1
    have it := it_rng (Z := zx X cls exc) (F := F1) hds
    rw [Int.sub_zero] at it
    exact ⟨n, rfl, ok.2.2.1, ok.2.2.2.1, g2 _ [] F1 H1 fp1 A1.e A1.R ⟨it, rfl⟩ fun _ z => nomatch z⟩
  · exact g1.elim
/-- [e for t in range(n)] in an except suite -/
theorem pe_lcS {iter : Expr} {it : It} {q : Addr × Obj} (hot : Hot1 X.A q) (hp : q ∈ X.pn) (hN : X.N.Nodup) (hi : PIH X tg iter (tIt X cls exc W G C false it)) (ok : BlkOk X.N X.env.scope scope ownN) (ho : ∀ j ∈ tgS t, j ∈ ownN.map (·.2))
    (hg : ∀ (s : Shared) (H : Hp) (C : Addr) (cl : List (Str × Addr)) (fp : List Addr), TgOk (blkP X s H scope (compEnvC scope cl C X.env) fp q) cls tg t)
    (ht : ∀ (s : Shared) (H : Hp) (C' : Addr) (cl : List (Str × Addr)) (fp : List Addr), PTs (blkP X s H scope (compEnvC scope cl C' X.env) fp q) ifs (tTs (blkP X s H scope (compEnvC scope cl C' X.env) fp q) cls exc G C tst))
    (he : ∀ (s : Shared) (H : Hp) (C' : Addr) (cl : List (Str × Addr)) (fp : List Addr), PE (blkP X s H scope (compEnvC scope cl C' X.env) fp q) elt (tE (blkP X s H scope (compEnvC scope cl C' X.env) fp q) cls exc W0 G C xe)) (hs : ∀ x, foldedSetIterable iter X.env x = pure x := by intro _; rfl) (hnp : ((ownN.map (·.2)).all fun i => cls.pins.all fun ip => ip.1 != i) = true := by rfl) :
    PE X (.ListComp elt [⟨tg, iter, ifs, 0⟩] scope pos) (tE X cls exc W G C (.cmpr (ownN.map (·.2)) it t tst xe)) :=
  (pe_lcH hot hp hN hi ok (fun s H C' cl fp => pg_Y (cls := cls) (exc := exc) (pr := false) (hg s H C' cl fp) (fun h => nomatch h)) ht he hs).cons fun σ H Q h => conv_lc (fun i h => List.all_eq_true.mp hnp i h) ho σ H Q h
/-- the suite's own error is the handled one -/
theorem hot_suite {CA : Addr} {a : Addr} {oe : Obj} {d : Option Addr} {pn : List (Addr × Obj)} (hz : L2N.Zn (.ref CA) d oe) (hf : ∃ vs, oe.data = .fields vs) : Hot1 (X.suite a ((a, oe) :: pn)).A (a, oe) ∧ (a, oe) ∈ (X.suite a ((a, oe) :: pn)).pn := by
  obtain ⟨vs, hv⟩ := hf
  exact ⟨⟨rfl, vs, hv, hz.2.2 vs hv⟩, List.mem_cons_self⟩
end
end VL
end
section
set_option maxHeartbeats 0
namespace VL
open PySem PySem.Spec PyProof.Rows L2
theorem ex_at {l : List Bool} (h : l.all id = true) (i : Nat) {b : Bool} (hb : l[i]? = some b) : b = true := List.all_eq_true.mp h b (List.mem_of_getElem? hb)
theorem fin (FA : ∀ {w : World} {K : PySem.W.Frag} {h : Heap} {mg : Str → Option Value} {fl : Addr} (X : K.In h) (G : h.Ns mainGlobals mg) (hfa : mg ("law" : Str) = some (.ref fl)) (c : He.SaysX hFa hFn hTs [] hEx w h K),
    ∃ fd : FuncData, (∀ (s : Shared) (v : Value), BindsTo s fd ⟨[v], []⟩ [("_law_script", v)]) ∧ ∀ base : Heap, K.In base → base.Ns mainGlobals mg → FnOk (PySem.Challenge.rw_picturecodes_k19_errors_apart).prog w K mg base (L2N.CX (PySem.Challenge.rw_picturecodes_k19_errors_apart).prog w) 5 fl fd ["_law_script"] (spLaw K)) : PySem.Challenge.rw_picturecodes_k19_errors_apart.Holds := by
  open PySem PySem.W PySem.Calls PyProof.Rows in
  w_on; o_law
  refine HandSHeadRun.head_any (r := OpenLaw.row PySem.Challenge.rw_picturecodes_k19_errors_apart) (q := view (OpenLaw.row PySem.Challenge.rw_picturecodes_k19_errors_apart).prog [20]) (H := VL.hHk) (ob := VL.hOb) (M := 6000) (loose := VL.hLz) (d := HandSHeadRun.topDef (OpenLaw.row PySem.Challenge.rw_picturecodes_k19_errors_apart).prog 20) (kwd := []) VL.hOb_eq
    (by kernel_rfl) (fun s => by kernel_rfl) VL.hRun (by kernel_rfl) (by kernel_rfl) (by kernel_rfl) (by rfl) (by first | assumption | decide +kernel) (by decide +kernel) ⟨rfl, rfl, rfl, rfl, rfl, by decide +kernel⟩ ?hw ?hc
  case hw => w_witness2
  case hc =>
    refine VL.walk_ofW (l := PySem.Challenge.rw_picturecodes_k19_errors_apart) (n := 63) (k := 5) (x := "_law_script") (CX := fun w => L2N.CX (OpenLaw.row PySem.Challenge.rw_picturecodes_k19_errors_apart).prog w) rfl (by decide) (by kernel_rfl) ⟨rfl, by decide, by decide⟩ ?F (fun w _ _ _ _ z => VL.cx_false z)
    intro w mg fa h Y G hmg0
    obtain ⟨K, KX, c⟩ := Y
    have hmg : mg ("law" : PySem.Str) = some (.ref fa) := by
      have e : (HandSHeadRun.topDef (OpenLaw.row PySem.Challenge.rw_picturecodes_k19_errors_apart).prog 20).name = ("law" : PySem.Str) := by kernel_rfl
      rw [← e]
      exact hmg0
    obtain ⟨fd, hb, hF⟩ := FA (w := w) KX G hmg c
    exact ⟨K, fd, VL.spLaw K, KX, hb, fun H a ns hl _ hS => ⟨a, ns, rfl, hS, hl, fun _ => rfl⟩, hF⟩

end VL
end
section
namespace VL
open PySem PySem.Spec PyProof.Rows L2
noncomputable abbrev fd__law_next : Fd := fd_next
abbrev cx_CodeError : Nat := 0
abbrev cx_InvalidValues : Nat := 1
abbrev cx_InvalidWay : Nat := 2
abbrev cx_UnknownWay : Nat := 3
abbrev cx_InvalidPicture : Nat := 4
abbrev cx_NotWritten : Nat := 5
abbrev cx_InvalidBits : Nat := 6
abbrev cx_NotComparable : Nat := 7
abbrev cx_InvalidNumber : Nat := 8
abbrev cx_InvalidPrice : Nat := 9
abbrev cx_InvalidText : Nat := 10
abbrev ir__law_bare : Sts := (.cons (.ife (.cmp .eq (.var 0) (.cst (.int 0))) (.cons (.rai 1 0 .nil) .nil) .nil) (.cons (.ife (.cmp .eq (.var 0) (.cst (.int 1))) (.cons (.rai 4 0 .nil) .nil) .nil) (.cons (.ife (.cmp .eq (.var 0) (.cst (.int 2))) (.cons (.rai 6 0 .nil) .nil) .nil) (.cons (.ife (.cmp .eq (.var 0) (.cst (.int 3))) (.cons (.rai 7 0 .nil) .nil) .nil) (.cons (.ife (.cmp .eq (.var 0) (.cst (.int 4))) (.cons (.rai 8 0 .nil) .nil) .nil) (.cons (.rai 9 0 .nil) .nil))))))
noncomputable def fd__law_bare : Fd := ⟨[], 1, runF [] [] [] 1 1 ir__law_bare⟩
theorem sem__law_bare : fd__law_bare.sem = runF [] [] [] 1 1 ir__law_bare := rfl
abbrev ir__law_thrown : Sts := (.cons (.ife (.cmp .lt (.var 0) (.cst (.int 6))) (.cons (.exp (.call 0 (.cons (.var 0) .nil))) .nil) .nil) (.cons (.ife (.cmp .eq (.var 0) (.cst (.int 6))) (.cons (.rai 2 1 (.cons (.var 1) .nil)) .nil) .nil) (.cons (.ife (.cmp .eq (.var 0) (.cst (.int 7))) (.cons (.rai 3 1 (.cons (.var 1) .nil)) .nil) .nil) (.cons (.ife (.cmp .eq (.var 0) (.cst (.int 8))) (.cons (.rai 5 1 (.cons (.var 1) .nil)) .nil) .nil) (.cons (.rai 10 2 (.cons (.var 1) (.cons (.var 2) .nil))) .nil)))))
noncomputable def fd__law_thrown : Fd := ⟨[], 3, runF [fd__law_bare] [] [] 3 3 ir__law_thrown⟩
theorem sem__law_thrown : fd__law_thrown.sem = runF [fd__law_bare] [] [] 3 3 ir__law_thrown := rfl
abbrev ir__law_parts : Sts := (.cons (.ife (.cmp .lt (.var 0) (.cst (.int 6))) (.cons (.ret (.lst .nil)) .nil) .nil) (.cons (.ife (.cmp .lt (.var 0) (.cst (.int 8))) (.cons (.ret (.lst (.cons (.xfl [(2, 0), (3, 0)] (.var 1)) .nil))) .nil) .nil) (.cons (.ret (.ite (.cmp .eq (.var 0) (.cst (.int 8))) (.lst (.cons (.xfl [(5, 0)] (.var 1)) .nil)) (.lst (.cons (.xfl [(10, 0)] (.var 1)) (.cons (.xfl [(10, 1)] (.var 1)) .nil))))) .nil)))
noncomputable def fd__law_parts : Fd := ⟨[], 2, runF [] [] [] 2 2 ir__law_parts⟩
theorem sem__law_parts : fd__law_parts.sem = runF [] [] [] 2 2 ir__law_parts := rfl
abbrev ir__law_classes : Sts := (.cons (.asg (.nm 1) (.lst (.cons (.xis [1] (.var 0)) (.cons (.xis [4] (.var 0)) (.cons (.xis [6] (.var 0)) .nil))))) (.cons (.asg (.nm 1) (.bin .add (.var 1) (.lst (.cons (.xis [7] (.var 0)) (.cons (.xis [8] (.var 0)) (.cons (.xis [9] (.var 0)) .nil)))))) (.cons (.asg (.nm 1) (.bin .add (.var 1) (.lst (.cons (.xis [2] (.var 0)) (.cons (.xis [3] (.var 0)) (.cons (.xis [5] (.var 0)) .nil)))))) (.cons (.ret (.bin .add (.var 1) (.lst (.cons (.xis [10] (.var 0)) .nil)))) .nil))))
noncomputable def fd__law_classes : Fd := ⟨[], 1, runF [] [] [] 1 2 ir__law_classes⟩
theorem sem__law_classes : fd__law_classes.sem = runF [] [] [] 1 2 ir__law_classes := rfl
abbrev lt__law_right_1 : Oe := .no
abbrev le__law_right_1 : Ex := (.cmp .eq (.var 6) (.var 0))
abbrev lb__law_right_1 : Sts := (.cons (.asg (.nm 3) (.con true (.xis [0, 1, 2, 3, 4, 5, 6, 7, 8, 9, 10] (.var 5)) (.cmp .eq (.calx 2 (.cons (.var 5) .nil)) (.cmpr [6] (.range1 (.cst (.int 10))) (.nm 6) lt__law_right_1 le__law_right_1)))) (.cons (.asg (.nm 3) (.con true (.var 3) (.cmp .eq (.calx 1 (.cons (.var 0) (.cons (.var 5) .nil))) (.var 4)))) .nil))
abbrev ir__law_right : Sts := (.cons (.asg (.nm 3) (.cst (.bl false))) (.cons (.asg (.nm 4) (.bin .add (.slc (.lst (.cons (.var 1) .nil)) .no (.so (.blt .int (.cons (.cmp .gt (.var 0) (.cst (.int 5))) .nil)))) (.slc (.lst (.cons (.var 2) .nil)) .no (.so (.blt .int (.cons (.cmp .gt (.var 0) (.cst (.int 8))) .nil)))))) (.cons (.trx (.cons (.exp (.call 0 (.cons (.var 0) (.cons (.var 1) (.cons (.var 2) .nil))))) .nil) [0, 1, 2, 3, 4, 5, 6, 7, 8, 9, 10] 5 lb__law_right_1) (.cons (.ret (.var 3)) .nil))))
noncomputable def fd__law_right : Fd := ⟨[], 3, runF [fd__law_thrown, fd__law_parts, fd__law_classes] [] [] 3 7 ir__law_right⟩
theorem sem__law_right : fd__law_right.sem = runF [fd__law_thrown, fd__law_parts, fd__law_classes] [] [] 3 7 ir__law_right := rfl
abbrev lt_law_1 : Oe := .no
abbrev le_law_1 : Ex := (.call 0 (.cons (.var 4) (.cons (.var 2) (.cons (.var 3) .nil))))
abbrev ir_law : Sts := (.cons (.asg (.nm 2) (.idx (.lst (.cons (.cst (.str "a")) (.cons (.cst (.str "")) (.cons (.cst (.int 7)) (.cons (.tup (.cons (.cst (.str "raw")) (.cons (.cst (.int 0)) .nil))) (.cons (.cst .non) .nil)))))) (.call 1 (.cons (.var 1) (.cons (.cst (.int 5)) .nil))))) (.cons (.asg (.nm 3) (.idx (.lst (.cons (.tup .nil) (.cons (.cst (.str "kind")) (.cons (.cst (.int 0)) (.cons (.cst .non) .nil))))) (.call 1 (.cons (.var 1) (.cons (.cst (.int 4)) .nil))))) (.cons (.ret (.blt .all (.cons (.cmpr [4] (.range1 (.cst (.int 10))) (.nm 4) lt_law_1 le_law_1) .nil))) .nil)))
noncomputable def G_law : List Fd := [fd__law_right, fd__law_next]
end VL
end
section
/-! Q1: evaluation step by step, forwards. -/
namespace VL
open PySem PySem.Spec PyProof.Rows L2
section
variable {G : List Fd} {C : List D} {r r0 r1 r2 r3 r4 : Fr} {a b c e k v : Ex} {va vb vc vv : Vl} {x y z d kd vd : D} {vs : List Vl} {as : Ar} {o : Out} {st : St} {ss sa sb : Sts} {i j n m : Nat} {ds outs : List D} {q : Bool} {lo hi : Oe} {l h : Option Int} {acc kvs : List (D × D)} {fd : Fd} {own : Bool} {res : Res Vl}
theorem e_var (h : slotD r i = some d) : evE G C (.var i) r = .ok (.var i) r := by rw [evE, h]
theorem e_cst : evE G C (.cst d) r = .ok (.fro d) r := by rw [evE]
theorem e_glb (h : C[j]? = some d) : evE G C (.glb j) r = .ok (.fro d) r := by rw [evE, h]
theorem e_bin {op : Bop} (h1 : evE G C a r = .ok va r1) (h2 : evE G C b r1 = .ok vb r2) (h3 : va.get r2 = some x) (h4 : vb.get r2 = some y) (h5 : binD op x y = some vc) : evE G C (.bin op a b) r = .ok vc r2 := by simp [evE, Res.bnd, orBad, *]
theorem e_cmp {op : Cop} (h1 : evE G C a r = .ok va r1) (h2 : evE G C b r1 = .ok vb r2) (h3 : va.get r2 = some x) (h4 : vb.get r2 = some y) (h5 : cmpD op x y = some q) : evE G C (.cmp op a b) r = .ok (.fro (.bl q)) r2 := by simp [evE, Res.bnd, orBad, *]
theorem e_chnT {op op' : Cop} (h1 : evE G C a r = .ok va r1) (h2 : evE G C b r1 = .ok vb r2) (h3 : va.get r2 = some x) (h4 : vb.get r2 = some y) (h5 : cmpD op x y = some true) (h6 : evE G C c r2 = .ok vc r3) (h7 : vb.get r3 = some y) (h8 : vc.get r3 = some z) (h9 : cmpD op' y z = some q) : evE G C (.chn op op' a b c) r = .ok (.fro (.bl q)) r3 := by simp [evE, Res.bnd, orBad, *]
theorem e_chnF {op op' : Cop} (h1 : evE G C a r = .ok va r1) (h2 : evE G C b r1 = .ok vb r2) (h3 : va.get r2 = some x) (h4 : vb.get r2 = some y) (h5 : cmpD op x y = some false) : evE G C (.chn op op' a b c) r = .ok (.fro (.bl false)) r2 := by simp [evE, Res.bnd, orBad, *]
theorem e_andT (h1 : evE G C a r = .ok va r1) (h2 : isTrueV r1 va = some true) (h3 : evE G C b r1 = res) : evE G C (.con true a b) r = res := by simp [evE, Res.bnd, *]
theorem e_andF (h1 : evE G C a r = .ok va r1) (h2 : isTrueV r1 va = some false) : evE G C (.con true a b) r = .ok (.fro (.bl false)) r1 := by simp [evE, Res.bnd, *]
theorem e_orT (h1 : evE G C a r = .ok va r1) (h2 : isTrueV r1 va = some true) : evE G C (.con false a b) r = .ok (.fro (.bl true)) r1 := by simp [evE, Res.bnd, *]
theorem e_orF (h1 : evE G C a r = .ok va r1) (h2 : isTrueV r1 va = some false) (h3 : evE G C b r1 = res) : evE G C (.con false a b) r = res := by simp [evE, Res.bnd, *]
theorem e_not (h1 : evE G C a r = .ok va r1) (h2 : isTrueV r1 va = some q) : evE G C (.not a) r = .ok (.fro (.bl (!q))) r1 := by simp [evE, Res.bnd, *]
theorem e_iteT (h1 : evE G C c r = .ok va r1) (h2 : isTrueV r1 va = some true) (h3 : evE G C a r1 = res) : evE G C (.ite c a b) r = res := by simp [evE, Res.bnd, *]
theorem e_iteF (h1 : evE G C c r = .ok va r1) (h2 : isTrueV r1 va = some false) (h3 : evE G C b r1 = res) : evE G C (.ite c a b) r = res := by simp [evE, Res.bnd, *]
theorem e_idx (h1 : evE G C a r = .ok va r1) (h2 : evE G C b r1 = .ok vb r2) (h3 : va.get r2 = some x) (h4 : vb.get r2 = some y) (h5 : idxD x y = some d) : evE G C (.idx a b) r = .ok (.fro d) r2 := by simp [evE, Res.bnd, orBad, *]
theorem o_no : evO G C .no r = .ok none r := by rw [evO]
theorem o_so {t : Int} (h1 : evE G C a r = .ok va r1) (h2 : va.get r1 = some (.int t)) : evO G C (.so a) r = .ok (some t) r1 := by simp [evO, Res.bnd, *]
theorem e_slc (h1 : evE G C a r = .ok va r1) (h2 : evO G C lo r1 = .ok l r2) (h3 : evO G C hi r2 = .ok h r3) (h4 : va.get r3 = some x) (h5 : slcD l h x = some vc) : evE G C (.slc a lo hi) r = .ok vc r3 := by simp [evE, Res.bnd, orBad, *]
theorem e_rvs (h1 : evE G C a r = .ok va r1) (h4 : va.get r1 = some x) (h5 : rvsD x = some vc) : evE G C (.rvs a) r = .ok vc r1 := by simp [evE, Res.bnd, orBad, *]
theorem e_fld {cn : Nat} (h1 : evE G C a r = .ok va r1) (h2 : va.get r1 = some (.obj cn ds)) (h3 : ds[m]? = some d) : evE G C (.fld cn m a) r = .ok (.fro d) r1 := by simp [evE, Res.bnd, orBad, *]
theorem a_nil : evA G C .nil r = .ok [] r := by rw [evA]
theorem a_cons (h1 : evE G C a r = .ok va r1) (h2 : evA G C as r1 = .ok vs r2) : evA G C (.cons a as) r = .ok (va :: vs) r2 := by simp [evA, Res.bnd, *]
theorem a_star (h1 : evE G C a r = .ok va r1) (h0 : (va.get r1).bind seqOf = some ds) (h2 : evA G C as r1 = .ok vs r2) : evA G C (.star a as) r = .ok (ds.map Vl.fro ++ vs) r2 := by simp [evA, Res.bnd, *]
theorem e_tup (h1 : evA G C as r = .ok vs r1) (h2 : takeL vs r1 = some (ds, r2)) (h3 : ds.length ≤ LIM) : evE G C (.tup as) r = .ok (.fro (.tup ds)) r2 := by simp [evE, Res.bnd, orBad, *]
theorem e_lst (h1 : evA G C as r = .ok vs r1) (h2 : takeL vs r1 = some (ds, r2)) (h3 : ds.length ≤ LIM) : evE G C (.lst as) r = .ok (.own (.lst ds)) r2 := by simp [evE, Res.bnd, orBad, *]
theorem p_nil : evP G C .nil acc r = .ok acc r := by rw [evP]
theorem p_cons {ps : Ps} {rp : Res (List (D × D))} (h1 : evE G C k r = .ok va r1) (h2 : evE G C v r1 = .ok vb r2) (h3 : takeL [va, vb] r2 = some ([kd, vd], r3)) (h4 : putKey acc kd vd = some kvs) (h5 : evP G C ps kvs r3 = rp) : evP G C (.cons k v ps) acc r = rp := by simp [evP, Res.bnd, *]
theorem p_star {ps : Ps} {more : List (D × D)} {rp : Res (List (D × D))} (h1 : evE G C k r = .ok va r1) (h2 : va.get r1 = some (.dct more)) (h3 : more.isEmpty = false) (h4 : apartD more = true) (h5 : evP G C ps more r1 = rp) : evP G C (.star k ps) [] r = rp := by simp [evP, Res.bnd, *]
theorem e_dic {ps : Ps} (h1 : evP G C ps [] r = .ok kvs r1) : evE G C (.dic ps) r = .ok (.own (.dct kvs)) r1 := by simp [evE, Res.bnd, *]
/-- a call -/
theorem call_of {vs : List Vl} (h2 : lendL fd.lent vs r = some (ds, r2)) (h3 : ds.length = fd.np) (h4 : fd.sem ds = .ret own d outs) (h5 : backL fd.lent vs outs r2 = some r3) : callF fd vs r = .ok (if own then .own d else .fro d) r3 := by unfold callF; simp [*]
theorem callX_of {vs : List Vl} {cn : Nat} {fs : List D} (h2 : lendL fd.lent vs r = some (ds, r2)) (h3 : ds.length = fd.np) (h4 : fd.sem ds = .exc cn fs outs) (h5 : backL fd.lent vs outs r2 = some r3) : callF fd vs r = .exc cn fs r3 := by unfold callF; simp [*]
theorem e_call (h1 : evA G C as r = .ok vs r1) (h0 : G[j]? = some fd) (h2 : callF fd vs r1 = res) : evE G C (.call j as) r = res := by simp [evE, Res.bnd, orBad, *]
theorem e_meth {cn : Nat} {fs : List D} (h1 : evE G C a r = .ok va r1) (h2 : va.get r1 = some (.obj cn fs)) (h3 : evA G C as r1 = .ok vs r2) (h0 : G[j]? = some fd) (h4 : callF fd (va :: vs) r2 = res) : evE G C (.meth cn j a as) r = res := by simp [evE, Res.bnd, orBad, *]
theorem e_prop {cn : Nat} {fs : List D} (h1 : evE G C a r = .ok va r1) (h2 : va.get r1 = some (.obj cn fs)) (h0 : G[j]? = some fd) (h4 : callF fd [va] r1 = .ok vb r2) : evE G C (.prop cn j a) r = .ok vb r2 := by simp [evE, Res.bnd, orBad, Res.calm, *]
theorem e_new {cn : Nat} (h1 : evA G C as r = .ok vs r1) (h0 : G[j]? = some fd) (h2 : takeL vs r1 = some (ds, r2)) (h3 : ds.length + 1 = fd.np) (h4 : fd.sem (.obj cn [] :: ds) = .ret own .non [d]) : evE G C (.new cn j as) r = .ok (.own d) r2 := by simp [evE, Res.bnd, orBad, *]
theorem e_newX {cn ce : Nat} {fs : List D} (h1 : evA G C as r = .ok vs r1) (h0 : G[j]? = some fd) (h2 : takeL vs r1 = some (ds, r2)) (h3 : ds.length + 1 = fd.np) (h4 : fd.sem (.obj cn [] :: ds) = .exc ce fs outs) : evE G C (.new cn j as) r = .exc ce fs r2 := by simp [evE, Res.bnd, orBad, *]
theorem e_blt {bt : Blt} (h1 : evA G C as r = .ok vs r1) (h2 : vs.mapM (Vl.get r1) = some ds) (h3 : bltD bt ds = some vc) : evE G C (.blt bt as) r = .ok vc r1 := by simp [evE, Res.bnd, orBad, *]
theorem e_bme {mt : Bme} (h1 : evE G C a r = .ok va r1) (h2 : bmeK mt (va.get r1) = true) (h3 : evA G C as r1 = .ok vs r2) (h4 : va.get r2 = some x) (h5 : vs.mapM (Vl.get r2) = some ds) (h6 : bmeD mt x ds = some vc) : evE G C (.bme mt a as) r = .ok vc r2 := by simp [evE, Res.bnd, orBad, *]
theorem e_neD {xs ys : List (D × D)} (h1 : evE G C a r = .ok va r1) (h2 : evE G C b r1 = .ok vb r2) (h3 : va.get r2 = some (.dct xs)) (h4 : vb.get r2 = some (.dct ys)) (h5 : neDct xs ys = some q) : evE G C (.neD a b) r = .ok (.fro (.bl q)) r2 := by simp [evE, Res.bnd, orBad, *]
theorem e_get2 {nk : NestedKey} (h1 : evE G C a r = .ok va r1) (h2 : isDct (va.get r1) = true) (h3 : evA G C as r1 = .ok vs r2) (h4 : takeL vs r2 = some ([x, y], r3)) (h5 : va.get r3 = some (.dct kvs)) (h6 : keyOk x = some nk) (h7 : oneMake x kvs = true) : evE G C (.get2 a as) r = .ok (.fro ((lookD nk kvs).getD y)) r3 := by simp [evE, Res.bnd, orBad, *]
theorem e_mut {mt : Mut} {d' w : D} (h1 : mutK mt r[i]? = true) (h2 : evA G C as r = .ok vs r1) (h3 : takeL vs r1 = some (ds, r2)) (h4 : r2[i]? = some (some (true, d))) (h5 : mutD mt d ds = some (d', w)) : evE G C (.mut mt i as) r = .ok (.fro w) (r2.set i (some (true, d'))) := by simp [evE, Res.bnd, orBad, *]
theorem e_isi {t : Ty} (h1 : evE G C a r = .ok va r1) (h2 : va.get r1 = some x) (h3 : isiD t x = some q) : evE G C (.isi t a) r = .ok (.fro (.bl q)) r1 := by simp [evE, Res.bnd, orBad, *]
theorem e_cmpr {ow : List Nat} {it : It} {t : Tg} {tst : Oe} {xs : List D} (h1 : evI G C it r = .ok ds r1) (h2 : ownFree r1 ow = true) (h3 : loopC ow t (fun r => evT G C tst r) (fun r => evE G C e r) ds [] r1 = .ok xs r2) : evE G C (.cmpr ow it t tst e) r = .ok (.own (.lst xs)) (restF r1 r2 ow) := by simp [evE, Res.bnd, *]
theorem e_dcmp {ow : List Nat} {it : It} {t : Tg} {tst : Oe} {xs : List (D × D)} (h1 : evI G C it r = .ok ds r1) (h2 : ownFree r1 ow = true) (h3 : loopD ow t (fun r => evT G C tst r) (fun r => evE G C k r) (fun r => evE G C v r) ds [] r1 = .ok xs r2) : evE G C (.dcmp ow it t tst k v) r = .ok (.own (.dct xs)) (restF r1 r2 ow) := by simp [evE, Res.bnd, *]
theorem e_cmpo {ow : List Nat} {t : Tg} {tst : Oe} {xs : List D} (h1 : r[i]? = some (some (true, .lst ds))) (h2 : ownFree (r.set i none) ow = true) (h3 : loopC ow t (fun r => evT G C tst r) (fun r => evE G C e r) ds [] (r.set i none) = .ok xs r2) : evE G C (.cmpo ow i t tst e) r = .ok (.own (.lst xs)) ((restF (r.set i none) r2 ow).set i (some (true, .lst ds))) := by simp [evE, Res.bnd, *]
theorem e_calk (h1 : evA G C as r = .ok vs r1) (h0 : G[j]? = some fd) (h2 : callK fd vs r1 = res) : evE G C (.calk j as) r = res := by simp [evE, Res.bnd, orBad, *]
theorem callK_of {vs : List Vl} (h2 : lendL [] vs r = some (ds, r2)) (h3 : ds.length = fd.np) (h4 : fd.sem ds = .ret own d outs) (h5 : scal d = true) : callK fd vs r = .ok (.fro d) r := by unfold callK; simp [*]
theorem i_val (h1 : evE G C a r = .ok va r1) (h2 : va.take r1 = some (d, r2)) (h3 : itemsOf d = some ds) : evI G C (.val a) r = .ok ds r2 := by simp [evI, Res.bnd, orBad, *]
theorem i_rng1 {t : Int} (h1 : evE G C a r = .ok va r1) (h2 : va.get r1 = some (.int t)) (h3 : rangeD 0 t = some ds) : evI G C (.range1 a) r = .ok ds r1 := by simp [evI, Res.bnd, orBad, *]
theorem i_rng2 {t u : Int} (h1 : evE G C a r = .ok va r1) (h2 : evE G C b r1 = .ok vb r2) (h3 : va.get r2 = some (.int t)) (h4 : vb.get r2 = some (.int u)) (h5 : rangeD t u = some ds) : evI G C (.range2 a b) r = .ok ds r2 := by simp [evI, Res.bnd, orBad, *]
theorem i_enum (h1 : evE G C a r = .ok va r1) (h2 : va.take r1 = some (d, r2)) (h3 : seqOf d = some ds) : evI G C (.enum a) r = .ok (enumD ds) r2 := by simp [evI, Res.bnd, orBad, *]
theorem i_items (h1 : evE G C a r = .ok va r1) (h2 : va.take r1 = some (.dct kvs, r2)) : evI G C (.items a) r = .ok (kvs.map fun p => .tup [p.1, p.2]) r2 := by simp [evI, Res.bnd, *]
/-! statements -/
theorem s_asg {t : Tg} (h1 : evE G C e r = .ok va r1) (h2 : putV t va r1 = some r2) : evS G C (.asg t e) r = .nx r2 := by simp [evS, Res.out, orOut, *]
theorem s_par {is : List Nat} (h1 : evA G C as r = .ok vs r1) (h2 : takeL vs r1 = some (ds, r2)) (h3 : ds.length = is.length) (h4 : (is.zip ds).foldl (fun r q => r.set q.1 (some (false, q.2))) r2 = r3) : evS G C (.par is as) r = .nx r3 := by simp [evS, Res.out, orOut, *]
theorem s_augI {op : Bop} {t u : Int} {w : Vl} (h0 : slotD r i = some d) (h1 : evE G C e r = .ok va r1) (h2 : slotD r1 i = some (.int t)) (h3 : va.get r1 = some (.int u)) (h4 : binD op (.int t) (.int u) = some w) (h5 : w.put r1 i = some r2) : evS G C (.aug i op e) r = .nx r2 := by simp [evS, Res.out, orOut, *]
theorem s_augS {op : Bop} {t u : Str} {w : Vl} (h0 : slotD r i = some d) (h1 : evE G C e r = .ok va r1) (h2 : slotD r1 i = some (.str t)) (h3 : va.get r1 = some (.str u)) (h4 : binD op (.str t) (.str u) = some w) (h5 : w.put r1 i = some r2) : evS G C (.aug i op e) r = .nx r2 := by simp [evS, Res.out, orOut, *]
theorem s_sto (h1 : evE G C v r = .ok va r1) (h0 : slotD r1 i = some d) (h2 : evE G C k r1 = .ok vb r2) (h3 : takeL [va, vb] r2 = some (ds, r3)) (h4 : stoO i ds r3 = o) : evS G C (.sto i k v) r = o := by simp [evS, Res.out, orOut, *]
theorem s_sfl {cn : Nat} {fs fs' : List D} (h1 : evE G C e r = .ok va r1) (h2 : va.take r1 = some (d, r2)) (h3 : r2[i]? = some (some (true, .obj cn fs))) (h4 : setAt fs m d = some fs') : evS G C (.sfl i cn m e) r = .nx (r2.set i (some (true, .obj cn fs'))) := by simp [evS, Res.out, orOut, *]
theorem s_afl {cn : Nat} {fs fs' : List D} {op : Bop} {t u : Int} (h1 : evE G C e r = .ok va r1) (h3 : r1[i]? = some (some (true, .obj cn fs))) (h2 : va.get r1 = some (.int u)) (h5 : fs[m]? = some (.int t)) (h6 : binD op (.int t) (.int u) = some (.fro z)) (h4 : setAt fs m z = some fs') : evS G C (.afl i cn m op e) r = .nx (r1.set i (some (true, .obj cn fs'))) := by simp [evS, Res.out, orOut, *]
theorem s_exp (h1 : evE G C e r = .ok va r1) : evS G C (.exp e) r = .nx r1 := by simp [evS, Res.out, *]
theorem s_ifT (h1 : evE G C c r = .ok va r1) (h2 : isTrueV r1 va = some true) (h3 : evSs G C sa r1 = o) : evS G C (.ife c sa sb) r = o := by simp [evS, Res.out, *]
theorem s_ifF (h1 : evE G C c r = .ok va r1) (h2 : isTrueV r1 va = some false) (h3 : evSs G C sb r1 = o) : evS G C (.ife c sa sb) r = o := by simp [evS, Res.out, *]
theorem s_for {it : It} {t : Tg} (h1 : evI G C it r = .ok ds r1) (h2 : loopF t (fun r => evSs G C sa r) ds r1 = o) : evS G C (.for it t sa) r = o := by simp [evS, Res.out, *]
theorem s_whl (h1 : whileC (fun r => evE G C c r) (fun r => evSs G C sa r) r = o) : evS G C (.whl c sa) r = o := by rw [evS]; exact h1
theorem s_ret (h1 : evE G C e r = .ok va r1) (h2 : retO va r1 = o) : evS G C (.ret e) r = o := by simp [evS, Res.out, *]
theorem s_rai {cn : Nat} (h1 : evA G C as r = .ok vs r1) (h2 : takeL vs r1 = some (ds, r2)) (h3 : ds.length = n) : evS G C (.rai cn n as) r = .exc cn ds r2 := by simp [evS, Res.out, orOut, *]
theorem s_pass : evS G C .pass r = .nx r := by rw [evS]
theorem s_tryN {hs : Hs} (h1 : evSs G C sa r = .nx r1) : evS G C (.try sa hs) r = .nx r1 := by simp [evS, *]
theorem s_tryR {hs : Hs} (h1 : evSs G C sa r = .rt own d r1) : evS G C (.try sa hs) r = .rt own d r1 := by simp [evS, *]
theorem s_tryX {hs : Hs} {cn : Nat} {fs : List D} (h1 : evSs G C sa r = .exc cn fs r1) (h2 : evH cn fs r1 hs = o) : evS G C (.try sa hs) r = o := by simp [evS, *]
theorem s_expX {cn : Nat} {fs : List D} (h1 : evE G C e r = .exc cn fs r1) : evS G C (.exp e) r = .exc cn fs r1 := by simp [evS, Res.out, *]
theorem s_asgX {t : Tg} {cn : Nat} {fs : List D} (h1 : evE G C e r = .exc cn fs r1) : evS G C (.asg t e) r = .exc cn fs r1 := by simp [evS, Res.out, *]
theorem s_retX {cn : Nat} {fs : List D} (h1 : evE G C e r = .exc cn fs r1) : evS G C (.ret e) r = .exc cn fs r1 := by simp [evS, Res.out, *]
theorem b_nil : evSs G C .nil r = .nx r := by rw [evSs]
theorem b_cons (h1 : evS G C st r = .nx r1) (h2 : evSs G C ss r1 = o) : evSs G C (.cons st ss) r = o := by simp [evSs, Out.seq, *]
theorem b_rt (h1 : evS G C st r = .rt own d r1) : evSs G C (.cons st ss) r = .rt own d r1 := by simp [evSs, Out.seq, *]
theorem b_exc {cn : Nat} {fs : List D} (h1 : evS G C st r = .exc cn fs r1) : evSs G C (.cons st ss) r = .exc cn fs r1 := by simp [evSs, Out.seq, *]
/-- a def's meaning -/
theorem run_rt {lent : List Bool} {np : Nat} {bd : Sts} (h0 : ds.length = np) (h1 : evSs G C bd (entryF lent ds ++ List.replicate (n - np) none) = .rt own d r) (h2 : outsF lent r = some outs) : runF G C lent np n bd ds = .ret own d outs := by simp [runF, endC, *]
theorem run_nx {lent : List Bool} {np : Nat} {bd : Sts} (h0 : ds.length = np) (h1 : evSs G C bd (entryF lent ds ++ List.replicate (n - np) none) = .nx r) (h2 : outsF lent r = some outs) : runF G C lent np n bd ds = .ret false .non outs := by simp [runF, endC, *]
theorem run_exc {lent : List Bool} {np cn : Nat} {fs : List D} {bd : Sts} (h0 : ds.length = np) (h1 : evSs G C bd (entryF lent ds ++ List.replicate (n - np) none) = .exc cn fs r) (h2 : outsF lent r = some outs) : runF G C lent np n bd ds = .exc cn fs outs := by simp [runF, endC, *]
end
end VL
end
section
/-! Q2: rules where the branch is not yet known. -/
namespace VL
open PySem PySem.Spec PyProof.Rows L2
section
variable {G : List Fd} {C : List D} {r r0 r1 r2 r3 r4 : Fr} {a b c e k v : Ex} {va vb vc vv : Vl} {x y z d kd vd : D} {vs : List Vl} {as : Ar} {o o1 : Out} {st : St} {ss sa sb : Sts} {i j n m : Nat} {ds outs : List D} {q q2 : Bool} {fd : Fd} {own : Bool} {res : Res Vl} {cr : CRes}
theorem asm {p : Prop} (h : p) : p := h
theorem e_var' (h : slotD r i = some d) (h1 : r = r1) : evE G C (.var i) r = .ok (.var i) r1 := by rw [evE, h, h1]
theorem e_cst' (h0 : d = x) (h : r = r1) : evE G C (.cst d) r = .ok (.fro x) r1 := by rw [evE, h, h0]
theorem e_glb' (h : C[j]? = some d) (h1 : r = r1) : evE G C (.glb j) r = .ok (.fro d) r1 := by rw [evE, h, h1]
theorem a_nil' (h : r = r1) : evA G C .nil r = .ok [] r1 := by rw [evA, h]
theorem o_no' (h : r = r1) : evO G C .no r = .ok none r1 := by rw [evO, h]
theorem t_no' (h : r = r1) : evT G C .no r = .ok (.fro (.bl true)) r1 := by rw [evT, h]
theorem e_mut' {mt : Mut} {d' w : D} (h1 : mutK mt r[i]? = true) (h2 : evA G C as r = .ok vs r1) (h3 : takeL vs r1 = some (ds, r2)) (h4 : r2[i]? = some (some (true, d))) (h5 : mutD mt d ds = some (d', w)) (h6 : r2.set i (some (true, d')) = r3) : evE G C (.mut mt i as) r = .ok (.fro w) r3 := by rw [← h6]; exact e_mut h1 h2 h3 h4 h5
theorem e_cmpr' {ow : List Nat} {it : It} {t : Tg} {tst : Oe} {xs : List D} (h1 : evI G C it r = .ok ds r1) (h2 : ownFree r1 ow = true) (h3 : loopC ow t (fun r => evT G C tst r) (fun r => evE G C e r) ds [] r1 = .ok xs r2) (h4 : restF r1 r2 ow = r3) : evE G C (.cmpr ow it t tst e) r = .ok (.own (.lst xs)) r3 := by rw [← h4]; exact e_cmpr h1 h2 h3
theorem e_cmpo' {ow : List Nat} {t : Tg} {tst : Oe} {xs : List D} (h1 : r[i]? = some (some (true, .lst ds))) (h2 : ownFree (r.set i none) ow = true) (h3 : loopC ow t (fun r => evT G C tst r) (fun r => evE G C e r) ds [] (r.set i none) = .ok xs r2) (h4 : (restF (r.set i none) r2 ow).set i (some (true, .lst ds)) = r3) : evE G C (.cmpo ow i t tst e) r = .ok (.own (.lst xs)) r3 := by rw [← h4]; exact e_cmpo h1 h2 h3
theorem callK_ret {vl : Vl} (h2 : lendL [] vs r = some (ds, r2)) (h3 : ds.length = fd.np) (h4 : fd.sem ds = .ret own d outs) (h5 : scal d = true) (h6 : (.fro d) = vl) (h7 : r = r1) : callK fd vs r = .ok vl r1 := by
  rw [callK_of h2 h3 h4 h5, ← h6, h7]
theorem lc_of {ow : List Nat} {t : Tg} {f g : Fr → Res Vl} {ds2 : List D} {rr : Res (List D)} (h : loopC ow t f g ds2 outs r1 = rr) (h1 : r = r1) (h2 : ds = ds2) : loopC ow t f g ds outs r = rr := by rw [h1, h2]; exact h
theorem mp1 {v : Vl} (h : v.get r = some d) : [v].mapM (Vl.get r) = some [d] := by simp [h]
theorem mp2 {v w : Vl} (h : v.get r = some d) (h2 : w.get r = some x) : [v, w].mapM (Vl.get r) = some [d, x] := by simp [h, h2]
theorem le_asm {a b : Nat} (h : a ≤ b) : a ≤ b := h
theorem lt_asm {a b : Nat} (h : a < b) : a < b := h
theorem c_T {α : Type} {A B o : α} (h : A = o) : cond true A B = o := h
theorem c_F {α : Type} {A B o : α} (h : B = o) : cond false A B = o := h
theorem e_and (h1 : evE G C a r = .ok va r1) (h2 : isTrueV r1 va = some q) (h3 : cond q (evE G C b r1) (.ok (.fro (.bl false)) r1) = res) : evE G C (.con true a b) r = res := by
  cases q
  · exact (e_andF h1 h2).trans h3
  · exact e_andT h1 h2 h3
theorem e_or (h1 : evE G C a r = .ok va r1) (h2 : isTrueV r1 va = some q) (h3 : cond q (.ok (.fro (.bl true)) r1) (evE G C b r1) = res) : evE G C (.con false a b) r = res := by
  cases q
  · exact e_orF h1 h2 h3
  · exact (e_orT h1 h2).trans h3
theorem e_ite (h1 : evE G C c r = .ok va r1) (h2 : isTrueV r1 va = some q) (h3 : cond q (evE G C a r1) (evE G C b r1) = res) : evE G C (.ite c a b) r = res := by
  cases q
  · exact e_iteF h1 h2 h3
  · exact e_iteT h1 h2 h3
/-- the rest of a chain -/
def ch2 (G : List Fd) (C : List D) (op' : Cop) (vb : Vl) (c : Ex) (r2 : Fr) : Res Vl := (evE G C c r2).bnd fun vc r3 => match vb.get r3, vc.get r3 with
    | some y, some z => orBad (cmpD op' y z) fun v => .ok (.fro (.bl v)) r3
    | _, _ => .bad
theorem e_chn {op op' : Cop} (h1 : evE G C a r = .ok va r1) (h2 : evE G C b r1 = .ok vb r2) (h3 : va.get r2 = some x) (h4 : vb.get r2 = some y) (h5 : cmpD op x y = some q) (h6 : cond q (ch2 G C op' vb c r2) (.ok (.fro (.bl false)) r2) = res) : evE G C (.chn op op' a b c) r = res := by
  cases q
  · exact (e_chnF h1 h2 h3 h4 h5).trans h6
  · rw [evE, h1]
    dsimp only [Res.bnd]
    rw [h2]
    dsimp only
    rw [h3, h4]
    dsimp only
    rw [h5]
    exact h6
theorem ch2_of {op' : Cop} (h6 : evE G C c r2 = .ok vc r3) (h7 : vb.get r3 = some y) (h8 : vc.get r3 = some z) (h9 : cmpD op' y z = some q) : ch2 G C op' vb c r2 = .ok (.fro (.bl q)) r3 := by
  unfold ch2
  rw [h6]
  dsimp only [Res.bnd]
  rw [h7, h8]
  dsimp only
  rw [h9]
  rfl
theorem e_chnB {op op' : Cop} (h1 : evE G C a r = .ok va r1) (h2 : evE G C b r1 = .ok vb r2) (h3 : va.get r2 = some x) (h4 : vb.get r2 = some y) (h5 : cmpD op x y = some q) (h6 : evE G C c r2 = .ok vc r2) (h8 : vc.get r2 = some z) (h9 : cmpD op' y z = some q2) : evE G C (.chn op op' a b c) r = .ok (.fro (.bl (q && q2))) r2 := by
  cases q
  · exact e_chnF h1 h2 h3 h4 h5
  · exact e_chnT h1 h2 h3 h4 h5 h6 h4 h8 h9
theorem s_if (h1 : evE G C c r = .ok va r1) (h2 : isTrueV r1 va = some q) (h3 : cond q (evSs G C sa r1) (evSs G C sb r1) = o) : evS G C (.ife c sa sb) r = o := by
  cases q
  · exact s_ifF h1 h2 h3
  · exact s_ifT h1 h2 h3
theorem b_seq (h1 : evS G C st r = o1) (h2 : Out.seq o1 (fun r1 => evSs G C ss r1) = o) : evSs G C (.cons st ss) r = o := by rw [evSs, h1]; exact h2
theorem q_nx (h : evSs G C ss r = o) : Out.seq (.nx r) (fun r1 => evSs G C ss r1) = o := h
theorem q_rt {k : Fr → Out} (h : x = d) (h2 : r = r1) : Out.seq (.rt own x r) k = .rt own d r1 := by rw [h, h2]; rfl
theorem q_exc {cn : Nat} {k : Fr → Out} : Out.seq (.exc cn ds r) k = .exc cn ds r := rfl
theorem b_nil' (h : r = r1) : evSs G C .nil r = .nx r1 := by rw [evSs, h]
theorem s_pass' (h : r = r1) : evS G C .pass r = .nx r1 := by rw [evS, h]
/-- a call, its end known -/
theorem call_ret {vl : Vl} (h2 : lendL fd.lent vs r = some (ds, r2)) (h3 : ds.length = fd.np) (h4 : fd.sem ds = .ret own d outs) (h5 : backL fd.lent vs outs r2 = some r3) (h6 : cond own (.own d) (.fro d) = vl) : callF fd vs r = .ok vl r3 := by
  rw [call_of h2 h3 h4 h5, ← h6]
  cases own <;> rfl
theorem rt_fro (h : x = d) : retO (.fro x) r = .rt false d r := by rw [h]; rfl
theorem rt_own (h : x = d) : retO (.own x) r = .rt true d r := by rw [h]; rfl
theorem rt_varF (h : r[i]? = some (some (false, x))) (h2 : x = d) : retO (.var i) r = .rt false d r := by simp [retO, h, h2]
theorem rt_varT (h : r[i]? = some (some (true, x))) (h1 : x = d) (h2 : r.set i none = r1) : retO (.var i) r = .rt true d r1 := by simp [retO, h, h1, h2]
theorem ok_rf (h1 : va = vb) (h2 : r = r1) : (Res.ok va r : Res Vl) = .ok vb r1 := by rw [h1, h2]
theorem nx_rf (h : r = r1) : Out.nx r = .nx r1 := by rw [h]
theorem rt_rf (h : x = d) (h2 : r = r1) : Out.rt own x r = .rt own d r1 := by rw [h, h2]
theorem rfO {α : Type} {a b : Option α} (h : a = b) : a = b := h
theorem rfL {α : Type} {a b : List α} (h : a = b) : a = b := h
theorem rfN {a b : Nat} (h : a = b) : a = b := h
theorem rfI {a b : Int} (h : a = b) : a = b := h
theorem rfB {a b : Bool} (h : a = b) : a = b := h
theorem rfD {a b : D} (h : a = b) : a = b := h
theorem rfV {a b : Vl} (h : a = b) : a = b := h
theorem so_dct {kvs kvs' : List (D × D)} (h1 : r[i]? = some (some (true, .dct kvs))) (h2 : putKey kvs y x = some kvs') (h3 : r.set i (some (true, .dct kvs')) = r1) : stoO i [x, y] r = .nx r1 := by
  subst h3
  unfold stoO
  split
  · rename_i heq h
    rw [h1] at h
    cases h
  · rename_i heq h
    rw [h1] at h
    cases h
    cases heq
    simp [orOut, h2]
  · rename_i h5 h6
    exact absurd h1 (h6 x y kvs rfl)
theorem tLT : isTrueV r (.fro (.bl true)) = some true := rfl
theorem tLF : isTrueV r (.fro (.bl false)) = some false := rfl
theorem tdecT {p : Prop} [Decidable p] (h : p) : isTrueV r (.fro (.bl (decide p))) = some true := by rw [decide_eq_true h]; rfl
theorem tdecF {p : Prop} [Decidable p] (h : ¬ p) : isTrueV r (.fro (.bl (decide p))) = some false := by rw [decide_eq_false h]; rfl
theorem tndT {p : Prop} [Decidable p] (h : ¬ p) : isTrueV r (.fro (.bl (!decide p))) = some true := by rw [decide_eq_false h]; rfl
theorem tndF {p : Prop} [Decidable p] (h : p) : isTrueV r (.fro (.bl (!decide p))) = some false := by rw [decide_eq_true h]; rfl
theorem tVT (h : slotD r i = some (.bl true)) : isTrueV r (.var i) = some true := by simp [isTrueV, Vl.get, h]
theorem tVF (h : slotD r i = some (.bl false)) : isTrueV r (.var i) = some false := by simp [isTrueV, Vl.get, h]
theorem tT (h : isTrueV r va = some true) : isTrueV r va = some true := h
theorem tF (h : isTrueV r va = some false) : isTrueV r va = some false := h
theorem tD (h : q = q2) : isTrueV r (.fro (.bl q)) = some q2 := by rw [h]; rfl
theorem t_no : evT G C .no r = .ok (.fro (.bl true)) r := by rw [evT]
theorem t_so (h : evE G C e r = res) : evT G C (.so e) r = res := by rw [evT, h]
theorem bd_lst {xs ys : List D} (h : xs.length + ys.length ≤ LIM) : binD .add (.lst xs) (.lst ys) = some (.own (.lst (xs ++ ys))) := by simp [binD, h]
theorem bd_tup {xs ys : List D} (h : xs.length + ys.length ≤ LIM) : binD .add (.tup xs) (.tup ys) = some (.fro (.tup (xs ++ ys))) := by simp [binD, h]
theorem bd_str {xs ys : Str} (h : xs.length + ys.length ≤ LIM) : binD .add (.str xs) (.str ys) = some (.fro (.str (xs ++ ys))) := by simp [binD, h]
theorem mu_app {xs : List D} (h : xs.length < LIM) : mutD .append (.lst xs) [x] = some (.lst (xs ++ [x]), .non) := by simp [mutD, h]
theorem sc_str {lo hi : Option Int} {s : Str} (h : s.length ≤ LIM) : slcD lo hi (.str s) = some (.fro (.str (cutT s lo hi))) := by simp [slcD, h]
theorem bl_str {s : Str} (h : s.length ≤ LIM) : bltD .len [.str s] = some (.fro (.int s.length)) := by simp [bltD, h]
/-- numbers from k, m of them -/
abbrev ivs (k m : Nat) : List D := (List.range' k m).map fun (j : Nat) => D.int (j : Int)
theorem rangeD_ivs {m : Nat} (h : m ≤ LIM) : rangeD 0 (m : Int) = some (ivs 0 m) := by
  unfold rangeD
  have h' : m ≤ 16777216 := h
  rw [if_pos (by omega)]
  simp [ivs, List.range_eq_range']
theorem rangeD_1ivs {m : Nat} (h : m + 1 ≤ LIM) : rangeD 0 (1 + (m : Int)) = some (ivs 0 (m + 1)) := by
  have e : (1 + (m : Int)) = ((m + 1 : Nat) : Int) := by omega
  rw [e]
  exact rangeD_ivs h
theorem ivs_cons (k m : Nat) : ivs k (m + 1) = .int (k : Int) :: ivs (k + 1) m := by simp [ivs, List.range'_succ]
theorem lp_of {t : Tg} {f : Fr → Out} {ds2 : List D} (h : loopF t f ds2 r1 = o) (h1 : r = r1) (h2 : ds = ds2) : loopF t f ds r = o := by rw [h1, h2]; exact h
theorem asmC {a b : CRes} (h : a = b) : a = b := h
/-! loops -/
theorem loopF_nil {t : Tg} {b : Fr → Out} : loopF t b [] r = .nx r := rfl
theorem loopF_cons {t : Tg} {b : Fr → Out} (h1 : putT t d r = some r1) (h2 : b r1 = .nx r2) (h3 : loopF t b ds r2 = o) : loopF t b (d :: ds) r = o := by
  rw [loopF, h1]
  dsimp only
  rw [h2]
  exact h3
theorem loopF_rt {t : Tg} {b : Fr → Out} (h1 : putT t d r = some r1) (h2 : b r1 = .rt own x r2) : loopF t b (d :: ds) r = .rt own x r2 := by
  rw [loopF, h1]
  dsimp only
  rw [h2]
  rfl
theorem loopF_exc {t : Tg} {b : Fr → Out} {cn : Nat} (h1 : putT t d r = some r1) (h2 : b r1 = .exc cn outs r2) : loopF t b (d :: ds) r = .exc cn outs r2 := by
  rw [loopF, h1]
  dsimp only
  rw [h2]
  rfl
theorem loopF_rel {S A : Type} {g : A → D} {R : S → Fr → Prop} {f : S → A → S} {t : Tg} {b : Fr → Out} : ∀ (ds : List A) (s : S) (r : Fr), R s r → (∀ s r d, d ∈ ds → R s r → ∃ r1 r2, putT t (g d) r = some r1 ∧ b r1 = .nx r2 ∧ R (f s d) r2) → ∃ r', loopF t b (ds.map g) r = .nx r' ∧ R (ds.foldl f s) r'
  | [], s, r, h, _ => ⟨r, rfl, h⟩
  | d :: ds, s, r, h, st => by
    obtain ⟨r1, r2, h1, h2, h3⟩ := st s r d List.mem_cons_self h
    obtain ⟨r', h4, h5⟩ := loopF_rel ds (f s d) r2 h3 fun s r d hd => st s r d (List.mem_cons_of_mem _ hd)
    exact ⟨r', loopF_cons h1 h2 h4, h5⟩
theorem loopC_nil {ow : List Nat} {t : Tg} {tst e : Fr → Res Vl} : loopC ow t tst e [] outs r = .ok outs r := rfl
theorem loopC_yes {ow : List Nat} {t : Tg} {tst e : Fr → Res Vl} {rr : Res (List D)} (h1 : putT t d (wipeF r ow) = some r1) (h2 : tst r1 = .ok va r2) (h3 : isTrueV r2 va = some true) (h4 : e r2 = .ok vb r3) (h5 : vb.take r3 = some (x, r4)) (h6 : outs.length < LIM) (h7 : loopC ow t tst e ds (outs ++ [x]) r4 = rr) : loopC ow t tst e (d :: ds) outs r = rr := by
  rw [loopC, h1]
  dsimp only
  rw [h2]
  dsimp only [Res.calm, Res.bnd]
  rw [h3]
  dsimp only
  rw [h4]
  dsimp only
  rw [h5]
  dsimp only
  rw [if_pos h6]
  exact h7
theorem loopC_no {ow : List Nat} {t : Tg} {tst e : Fr → Res Vl} {rr : Res (List D)} (h1 : putT t d (wipeF r ow) = some r1) (h2 : tst r1 = .ok va r2) (h3 : isTrueV r2 va = some false) (h7 : loopC ow t tst e ds outs r2 = rr) : loopC ow t tst e (d :: ds) outs r = rr := by
  rw [loopC, h1]
  dsimp only
  rw [h2]
  dsimp only [Res.calm, Res.bnd]
  rw [h3]
  exact h7
/-- a comprehension without a test that may change what it stands on -/
theorem loopC_inv {ow : List Nat} {t : Tg} {tst e : Fr → Res Vl} {Q : List D → Fr → Prop} (ht : ∀ r, tst r = .ok (.fro (.bl true)) r) : ∀ (ds acc : List D) (r : Fr), Q acc r → (∀ d ∈ ds, ∀ acc r, Q acc r → ∃ r1 vb r3 x r4, putT t d (wipeF r ow) = some r1 ∧ e r1 = .ok vb r3 ∧ vb.take r3 = some (x, r4) ∧ Q (acc ++ [x]) r4) → acc.length + ds.length ≤ LIM → ∃ out r', loopC ow t tst e ds acc r = .ok out r' ∧ Q out r' ∧ out.length = acc.length + ds.length
  | [], acc, r, h, _, _ => ⟨acc, r, rfl, h, rfl⟩
  | d :: ds, acc, r, h, st, hl => by
    simp only [List.length_cons] at hl
    obtain ⟨r1, vb, r3, x, r4, h1, h2, h3, h4⟩ := st d List.mem_cons_self acc r h
    obtain ⟨out, r', h5, h6, h7⟩ := loopC_inv ht ds (acc ++ [x]) r4 h4 (fun d hd => st d (List.mem_cons_of_mem _ hd)) (by simp; omega)
    refine ⟨out, r', loopC_yes h1 (ht r1) rfl h2 h3 (by omega) h5, h6, ?_⟩
    rw [h7, List.length_append, List.length_cons, List.length_cons, List.length_nil]
    omega
/-- a comprehension that draws nothing: its frame r (with the own slots wiped) is the same at each item -/
theorem loopC_map {A : Type} {g : A → D} {f : A → D} {p : A → Bool} {ow : List Nat} {t : Tg} {tst e : Fr → Res Vl} {R : Fr → Prop} : ∀ (xs : List A) (acc : List D) (r : Fr), R r → (∀ r d, d ∈ xs → R r → ∃ r1 v r2, putT t (g d) (wipeF r ow) = some r1 ∧ tst r1 = .ok v r2 ∧ isTrueV r2 v = some (p d) ∧ (p d = false → R r2) ∧ (p d = true → ∃ vb r3 r4, e r2 = .ok vb r3 ∧ vb.take r3 = some (f d, r4) ∧ R r4)) → acc.length + xs.length ≤ LIM → ∃ r', loopC ow t tst e (xs.map g) acc r = .ok (acc ++ (xs.filter p).map f) r' ∧ R r'
  | [], acc, r, h, _, _ => ⟨r, by simp [loopC], h⟩
  | d :: xs, acc, r, h, st, hl => by
    simp only [List.length_cons] at hl
    obtain ⟨r1, v, r2, h1, h2, h3, h4, h5⟩ := st r d List.mem_cons_self h
    cases hp : p d with
    | false =>
      obtain ⟨r', h6, h7⟩ := loopC_map xs acc r2 (h4 hp) (fun r d hd => st r d (List.mem_cons_of_mem _ hd)) (by omega)
      rw [hp] at h3
      exact ⟨r', by rw [List.filter_cons_of_neg (by simp [hp])]; exact loopC_no h1 h2 h3 h6, h7⟩
    | true =>
      obtain ⟨vb, r3, r4, k1, k2, k3⟩ := h5 hp
      obtain ⟨r', h6, h7⟩ := loopC_map xs (acc ++ [f d]) r4 k3 (fun r d hd => st r d (List.mem_cons_of_mem _ hd)) (by simp; omega)
      rw [hp] at h3
      refine ⟨r', ?_, h7⟩
      rw [List.filter_cons_of_pos hp]
      refine loopC_yes h1 h2 h3 k1 k2 (by omega) (h6.trans ?_)
      simp
end
end VL
end
section
set_option maxHeartbeats 1000000
namespace VL
open PySem PySem.Spec PyProof.Rows L2
abbrev e19_0 : St := (.asg (.nm 2) (.idx (.lst (.cons (.cst (.str "a")) (.cons (.cst (.str "")) (.cons (.cst (.int 7)) (.cons (.tup (.cons (.cst (.str "raw")) (.cons (.cst (.int 0)) .nil))) (.cons (.cst .non) .nil)))))) (.call 1 (.cons (.var 1) (.cons (.cst (.int 5)) .nil)))))
abbrev e19_1 : St := (.asg (.nm 3) (.idx (.lst (.cons (.tup .nil) (.cons (.cst (.str "kind")) (.cons (.cst (.int 0)) (.cons (.cst .non) .nil))))) (.call 1 (.cons (.var 1) (.cons (.cst (.int 4)) .nil)))))
abbrev e19_2 : St := (.ret (.blt .all (.cons (.cmpr [4] (.range1 (.cst (.int 10))) (.nm 4) lt_law_1 le_law_1) .nil)))
inductive Rng : D → Prop
  | mk (gp : Nat) (st : Int) (cells : List Int) (ix : Int) (h0 : 0 ≤ ix) (h1 : cells.length < 1000) : Rng (.rng gp st cells ix)
theorem draw {d : D} (hd : Rng d) {b : Int} (h0 : 0 < b) (h1 : b < 1073741824) : ∃ (k : Nat) (d' : D), (k : Int) < b ∧ Rng d' ∧ fd__law_next.sem [d, .int b] = .ret false (.int (k : Int)) [d'] := by
  obtain ⟨gp, st, cells, ix, hx, hc⟩ := hd
  have hok : nextOk cells ix b = true := by
    unfold nextOk
    simp [h0, h1, hx, hc]
  have e : fd__law_next.sem [.rng gp st cells ix, .int b] = .ret false (.int (nextN st cells ix b).1) [.rng gp (nextN st cells ix b).2.1 (nextN st cells ix b).2.2.1 (nextN st cells ix b).2.2.2] := by
    rw [show fd__law_next.sem = nextS from rfl]
    unfold nextS
    dsimp only
    rw [if_pos hok]
  have r0 : 0 ≤ (nextN st cells ix b).1 ∧ (nextN st cells ix b).1 < b := by
    unfold nextN
    dsimp only
    split
    · exact ⟨Int.fmod_nonneg_of_pos _ h0, Int.fmod_lt_of_pos _ h0⟩
    · exact ⟨Int.fmod_nonneg_of_pos _ h0, Int.fmod_lt_of_pos _ h0⟩
  refine ⟨(nextN st cells ix b).1.toNat, .rng gp (nextN st cells ix b).2.1 (nextN st cells ix b).2.2.1 (nextN st cells ix b).2.2.2, by omega, ?_, ?_⟩
  rotate_left
  · rw [e]
    have : D.int ((nextN st cells ix b).1.toNat : Int) = .int (nextN st cells ix b).1 := by
      show D.int _ = _
      congr 1
      omega
    rw [this]
  · unfold nextN
    dsimp only
    split
    · exact .mk _ _ _ _ hx (by rw [List.length_set]; exact hc)
    · exact .mk _ _ _ _ (by dsimp only; omega) hc
abbrev ones : List D := [.str "a", .str "", .int 7, .tup [.str "raw", .int 0], .non]
abbrev twos : List D := [.tup [], .str "kind", .int 0, .non]
theorem mem10 {k : Nat} (h : k < 10) : k = 0 ∨ k = 1 ∨ k = 2 ∨ k = 3 ∨ k = 4 ∨ k = 5 ∨ k = 6 ∨ k = 7 ∨ k = 8 ∨ k = 9 := by omega
theorem right_00 {k : Nat} (h : k < 10) : fd__law_right.sem [.int (k : Int), .str "a", .tup []] = .ret false (.bl true) [] := by
  rcases mem10 h with rfl | rfl | rfl | rfl | rfl | rfl | rfl | rfl | rfl | rfl <;> kernel_rfl
theorem right_01 {k : Nat} (h : k < 10) : fd__law_right.sem [.int (k : Int), .str "a", .str "kind"] = .ret false (.bl true) [] := by
  rcases mem10 h with rfl | rfl | rfl | rfl | rfl | rfl | rfl | rfl | rfl | rfl <;> kernel_rfl
theorem right_02 {k : Nat} (h : k < 10) : fd__law_right.sem [.int (k : Int), .str "a", .int 0] = .ret false (.bl true) [] := by
  rcases mem10 h with rfl | rfl | rfl | rfl | rfl | rfl | rfl | rfl | rfl | rfl <;> kernel_rfl
theorem right_03 {k : Nat} (h : k < 10) : fd__law_right.sem [.int (k : Int), .str "a", .non] = .ret false (.bl true) [] := by
  rcases mem10 h with rfl | rfl | rfl | rfl | rfl | rfl | rfl | rfl | rfl | rfl <;> kernel_rfl
theorem right_10 {k : Nat} (h : k < 10) : fd__law_right.sem [.int (k : Int), .str "", .tup []] = .ret false (.bl true) [] := by
  rcases mem10 h with rfl | rfl | rfl | rfl | rfl | rfl | rfl | rfl | rfl | rfl <;> kernel_rfl
theorem right_11 {k : Nat} (h : k < 10) : fd__law_right.sem [.int (k : Int), .str "", .str "kind"] = .ret false (.bl true) [] := by
  rcases mem10 h with rfl | rfl | rfl | rfl | rfl | rfl | rfl | rfl | rfl | rfl <;> kernel_rfl
theorem right_12 {k : Nat} (h : k < 10) : fd__law_right.sem [.int (k : Int), .str "", .int 0] = .ret false (.bl true) [] := by
  rcases mem10 h with rfl | rfl | rfl | rfl | rfl | rfl | rfl | rfl | rfl | rfl <;> kernel_rfl
theorem right_13 {k : Nat} (h : k < 10) : fd__law_right.sem [.int (k : Int), .str "", .non] = .ret false (.bl true) [] := by
  rcases mem10 h with rfl | rfl | rfl | rfl | rfl | rfl | rfl | rfl | rfl | rfl <;> kernel_rfl
theorem right_20 {k : Nat} (h : k < 10) : fd__law_right.sem [.int (k : Int), .int 7, .tup []] = .ret false (.bl true) [] := by
  rcases mem10 h with rfl | rfl | rfl | rfl | rfl | rfl | rfl | rfl | rfl | rfl <;> kernel_rfl
theorem right_21 {k : Nat} (h : k < 10) : fd__law_right.sem [.int (k : Int), .int 7, .str "kind"] = .ret false (.bl true) [] := by
  rcases mem10 h with rfl | rfl | rfl | rfl | rfl | rfl | rfl | rfl | rfl | rfl <;> kernel_rfl
theorem right_22 {k : Nat} (h : k < 10) : fd__law_right.sem [.int (k : Int), .int 7, .int 0] = .ret false (.bl true) [] := by
  rcases mem10 h with rfl | rfl | rfl | rfl | rfl | rfl | rfl | rfl | rfl | rfl <;> kernel_rfl
theorem right_23 {k : Nat} (h : k < 10) : fd__law_right.sem [.int (k : Int), .int 7, .non] = .ret false (.bl true) [] := by
  rcases mem10 h with rfl | rfl | rfl | rfl | rfl | rfl | rfl | rfl | rfl | rfl <;> kernel_rfl
theorem right_30 {k : Nat} (h : k < 10) : fd__law_right.sem [.int (k : Int), .tup [.str "raw", .int 0], .tup []] = .ret false (.bl true) [] := by
  rcases mem10 h with rfl | rfl | rfl | rfl | rfl | rfl | rfl | rfl | rfl | rfl <;> kernel_rfl
theorem right_31 {k : Nat} (h : k < 10) : fd__law_right.sem [.int (k : Int), .tup [.str "raw", .int 0], .str "kind"] = .ret false (.bl true) [] := by
  rcases mem10 h with rfl | rfl | rfl | rfl | rfl | rfl | rfl | rfl | rfl | rfl <;> kernel_rfl
theorem right_32 {k : Nat} (h : k < 10) : fd__law_right.sem [.int (k : Int), .tup [.str "raw", .int 0], .int 0] = .ret false (.bl true) [] := by
  rcases mem10 h with rfl | rfl | rfl | rfl | rfl | rfl | rfl | rfl | rfl | rfl <;> kernel_rfl
theorem right_33 {k : Nat} (h : k < 10) : fd__law_right.sem [.int (k : Int), .tup [.str "raw", .int 0], .non] = .ret false (.bl true) [] := by
  rcases mem10 h with rfl | rfl | rfl | rfl | rfl | rfl | rfl | rfl | rfl | rfl <;> kernel_rfl
theorem right_40 {k : Nat} (h : k < 10) : fd__law_right.sem [.int (k : Int), .non, .tup []] = .ret false (.bl true) [] := by
  rcases mem10 h with rfl | rfl | rfl | rfl | rfl | rfl | rfl | rfl | rfl | rfl <;> kernel_rfl
theorem right_41 {k : Nat} (h : k < 10) : fd__law_right.sem [.int (k : Int), .non, .str "kind"] = .ret false (.bl true) [] := by
  rcases mem10 h with rfl | rfl | rfl | rfl | rfl | rfl | rfl | rfl | rfl | rfl <;> kernel_rfl
theorem right_42 {k : Nat} (h : k < 10) : fd__law_right.sem [.int (k : Int), .non, .int 0] = .ret false (.bl true) [] := by
  rcases mem10 h with rfl | rfl | rfl | rfl | rfl | rfl | rfl | rfl | rfl | rfl <;> kernel_rfl
theorem right_43 {k : Nat} (h : k < 10) : fd__law_right.sem [.int (k : Int), .non, .non] = .ret false (.bl true) [] := by
  rcases mem10 h with rfl | rfl | rfl | rfl | rfl | rfl | rfl | rfl | rfl | rfl <;> kernel_rfl
theorem right_ok {x y : D} (hx : x ∈ ones) (hy : y ∈ twos) {k : Nat} (h : k < 10) : fd__law_right.sem [.int (k : Int), x, y] = .ret false (.bl true) [] ∧ freezable x = true ∧ freezable y = true := by
  simp only [ones, List.mem_cons, List.not_mem_nil, or_false] at hx
  simp only [twos, List.mem_cons, List.not_mem_nil, or_false] at hy
  rcases hx with rfl | rfl | rfl | rfl | rfl <;> rcases hy with rfl | rfl | rfl | rfl <;> refine ⟨?_, rfl, rfl⟩
  · exact right_00 h
  · exact right_01 h
  · exact right_02 h
  · exact right_03 h
  · exact right_10 h
  · exact right_11 h
  · exact right_12 h
  · exact right_13 h
  · exact right_20 h
  · exact right_21 h
  · exact right_22 h
  · exact right_23 h
  · exact right_30 h
  · exact right_31 h
  · exact right_32 h
  · exact right_33 h
  · exact right_40 h
  · exact right_41 h
  · exact right_42 h
  · exact right_43 h
abbrev RF (d x y : D) (z : Option (Bool × D)) : Fr := [none, some (true, d), some (false, x), some (false, y), z]
theorem atI_get {α : Type} {xs : List α} {k : Nat} (h : k < xs.length) : atI xs (k : Int) = some xs[k] := by
  unfold atI
  rw [ixN_pos (by omega) (by omega)]
  simp
theorem atI_map {α β : Type} {f : α → β} {xs : List α} {k : Nat} {x : α} (h : xs[k]? = some x) : atI (xs.map f) (k : Int) = some (f x) := by
  have hk := (List.getElem?_eq_some_iff.mp h)
  obtain ⟨h1, h2⟩ := hk
  rw [atI_get (by simpa using h1)]
  simp [h2]
theorem idxL {xs : List D} {k : Nat} {x : D} (h : xs[k]? = some x) : idxD (.lst xs) (.int (k : Int)) = some x := by
  have := atI_map (f := fun z : D => z) h
  rw [List.map_id'] at this
  exact this
theorem e2_ok {d x y : D} (hx : x ∈ ones) (hy : y ∈ twos) : ∃ r, evS G_law [] e19_2 (RF d x y none) = .rt false (.bl true) r := by
  obtain ⟨r', hL, z, rfl⟩ := loopC_map (g := fun k : Nat => D.int (k : Int)) (f := fun _ => D.bl true) (p := fun _ => true) (ow := [4]) (t := .nm 4) (tst := fun r => evT G_law [] lt_law_1 r) (e := fun r => evE G_law [] le_law_1 r)
    (R := fun r => ∃ z, r = RF d x y z) (List.range' 0 10) [] (RF d x y none) ⟨_, rfl⟩ (fun r k hk hR => by
      obtain ⟨z, rfl⟩ := hR
      obtain ⟨q, fx, fy⟩ := right_ok hx hy (k := k) (by have := List.mem_range'_1.mp hk; omega)
      have hl : lendL fd__law_right.lent [.var 4, .var 2, .var 3] (RF d x y (some (false, .int (k : Int)))) = some ([.int (k : Int), x, y], RF d x y (some (false, .int (k : Int)))) := by
        have hc : freezable (D.int (k : Int)) = true := rfl
        show lendL [] _ _ = _
        simp [lendL, Vl.take, fx, fy, hc]
      exact ⟨_, _, _, rfl, t_no, rfl, fun z => (Bool.noConfusion z), fun _ => ⟨_, _, _, e_call (a_cons (e_var (by rfl)) (a_cons (e_var (by rfl)) (a_cons (e_var (by rfl)) a_nil))) (by rfl) (call_ret hl (by rfl) q (by rfl) (by rfl)), rfl, ⟨_, rfl⟩⟩⟩) (by decide)
  rw [List.filter_eq_self.mpr (fun _ _ => rfl), List.nil_append] at hL
  exact ⟨_, s_ret (e_blt (a_cons (e_cmpr' (i_rng1 e_cst (by rfl) (rangeD_ivs (m := 10) (by decide))) (by rfl) hL (by rfl)) a_nil) (mp1 (by rfl)) (by rfl)) (by rfl)⟩
theorem plain (p : Addr) (st : Int) (cells : List Int) (hc : cells.length ≤ 63) : ∃ r, evSs G_law [] ir_law ([none, some (true, .rng p st cells 0)] ++ List.replicate 3 none) = .rt false (.bl true) r := by
  obtain ⟨k, d1, hk, hd1, q0⟩ := draw (Rng.mk p st cells 0 (by decide) (by omega)) (b := 5) (by decide) (by decide)
  obtain ⟨j, d2, hj, hd2, q1⟩ := draw hd1 (b := 4) (by decide) (by decide)
  obtain ⟨x, hx⟩ : ∃ x, ones[k]? = some x := ⟨_, List.getElem?_eq_getElem (show k < 5 by omega)⟩
  obtain ⟨y, hy⟩ : ∃ x, twos[j]? = some x := ⟨_, List.getElem?_eq_getElem (show j < 4 by omega)⟩
  have s0 : evS G_law [] e19_0 [none, some (true, .rng p st cells 0), none, none, none] = .nx [none, some (true, d1), some (false, x), none, none] :=
    s_asg (e_idx (e_lst (ds := ones) (a_cons e_cst (a_cons e_cst (a_cons e_cst (a_cons (e_tup (a_cons e_cst (a_cons e_cst a_nil)) (by rfl) (by decide)) (a_cons e_cst a_nil))))) (by rfl) (by decide)) (e_call (a_cons (e_var (by rfl)) (a_cons e_cst a_nil)) (by rfl) (call_ret (by rfl) (by rfl) q0 (by rfl) (by rfl))) (by rfl) (by rfl) (idxL hx)) (by rfl)
  have s1 : evS G_law [] e19_1 [none, some (true, d1), some (false, x), none, none] = .nx (RF d2 x y none) :=
    s_asg (e_idx (e_lst (ds := twos) (a_cons (e_tup a_nil (by rfl) (by decide)) (a_cons e_cst (a_cons e_cst (a_cons e_cst a_nil)))) (by rfl) (by decide)) (e_call (a_cons (e_var (by rfl)) (a_cons e_cst a_nil)) (by rfl) (call_ret (by rfl) (by rfl) q1 (by rfl) (by rfl))) (by rfl) (by rfl) (idxL hy)) (by rfl)
  obtain ⟨r, s2⟩ := e2_ok (d := d2) (List.mem_of_getElem? hx) (List.mem_of_getElem? hy)
  exact ⟨r, b_cons s0 (b_cons s1 (b_rt s2))⟩
end VL
end
section
set_option maxHeartbeats 4000000

namespace VL
open PySem PySem.Spec PyProof.Rows L2
section
variable {X : Cx} {W : WX}
theorem hIxE {K : PySem.W.Frag} {σ : L2.St} {H : Hp} {Q : VK} {p q : Addr} {st ix : Int} (h0 : σ[0]? = some (some (.ref p))) (hp : H p = some (.lst [.int st, .ref q, .int ix, .int 14])) (i : Int) {v : V} (hv : atI [V.int st, .ref q, .int ix, .int 14] i = some v) (k : Q v H) : tOp (rIxL K) (tVar 0) (tC (.int i)) σ H Q :=
  ⟨.ref p, h0, p, _, i, v, rfl, rfl, .inl (.of hp), hv, k⟩
theorem pix {pos p0 p1 : Pos} {j k : Nat} {i : Int} (h : PE X (.Name "_law_h" p0) (tVar 0)) : PE X (.Subscript (.Name "_law_h" p0) (.Constant (.int i) k p1) pos) (tOp (rIxL X.K) (tVar 0) (tC (.int i))) := pe_ix ix_list h pe_int (fun _ _ => rfl)
end
theorem sc_next : FnScope ["_law_h", "_law_bound", "_law_cell"] ["_law_h", "_law_bound"] (defScope st_next) := ⟨rfl, rfl, rfl, by decide +kernel, rfl, by decide +kernel, by decide +kernel⟩
theorem walk_next {P : Program} {w : World} {K : PySem.W.Frag} {mg : Str → Option Value} {base : Heap} {f : Addr} {cdv : Value} {A : Around} {outer : List Env} {s : Shared} {H : Hp} {E : XK} (m_int : mg "int" = none) (m_max : mg "max" = none) (m_len : mg "len" = none) :
    ∃ t, PSs (cxOf (L2N.CX P w) P w K mg base ["_law_h", "_law_bound", "_law_cell"] "_law_next" (defScope st_next) f cdv A outer s H E) (defBody st_next) t := by
  have sc := sc_next
  refine ⟨_, pss_cons (ps_set (i := 2) sc.nd rfl (.inl rfl) (pe_ix ix_list (pe_op op_cat (pe_ix ix_list (L2.pv 0) pe_int (fun _ _ => rfl)) (pe_lst (pa_cons pe_int pa_nil))) (pe_op op_modN (pe_callTy call_int1 rfl m_int (by decide +kernel) (pa_cons (pe_ix ix_list (L2.pv 0) pe_int (fun _ _ => rfl)) pa_nil)) (pe_callB (call_max2 rfl) rfl m_max (by decide +kernel) (pa_cons pe_int (pa_cons (pe_callB call_len rfl m_len (by decide +kernel) (pa_cons (pe_ix ix_list (L2.pv 0) pe_int (fun _ _ => rfl)) pa_nil)) pa_nil)))) (fun _ _ => rfl)))
    (pss_cons (ps_if (pt_cmpR op_ge (L2.pv 2) (pe_op op_pow pe_int pe_int) (nomark _))
      (pss_cons (ps_asg (pe_op op_fdivN (L2.pv 2) (L2.pv 1)) (pg_sub (pe_ix ix_list (L2.pv 0) pe_int (fun _ _ => rfl)) (pe_op op_modN (pe_callTy call_int1 rfl m_int (by decide +kernel) (pa_cons (pe_ix ix_list (L2.pv 0) pe_int (fun _ _ => rfl)) pa_nil)) (pe_callB call_len rfl m_len (by decide +kernel) (pa_cons (pe_ix ix_list (L2.pv 0) pe_int (fun _ _ => rfl)) pa_nil))) set_list))
        (pss_one (ps_ret (pe_op op_modN (pe_callTy call_int1 rfl m_int (by decide +kernel) (pa_cons (L2.pv 2) pa_nil)) (L2.pv 1))))) pss_nil)
    (pss_cons (ps_asg (pe_op op_modN (pe_callTy call_int1 rfl m_int (by decide +kernel) (pa_cons (pe_op op_add (pe_op op_add (pe_op op_mul (pe_ix ix_list (L2.pv 0) pe_int (fun _ _ => rfl)) pe_int) (pe_op op_mul (L2.pv 2) pe_int)) pe_int) pa_nil)) pe_int) (pg_sub (L2.pv 0) pe_int set_list))
    (pss_cons (ps_asg (pe_op op_add (pe_ix ix_list (L2.pv 0) pe_int (fun _ _ => rfl)) pe_int) (pg_sub (L2.pv 0) pe_int set_list))
    (pss_one (ps_ret (pe_op op_modN (pe_callTy call_int1 rfl m_int (by decide +kernel) (pa_cons (pe_op op_fdivN (pe_ix ix_list (L2.pv 0) pe_int (fun _ _ => rfl)) pe_int) pa_nil)) (L2.pv 1)))))))⟩
end VL

namespace VL
open PySem PySem.Spec PyProof.Rows L2
abbrev FnQ (K : PySem.W.Frag) (x : Str) (st : Stmt) (f : Addr) (fd : FuncData) : Prop := FunD K x x (defArgs st) (defBody st) (defScope st) [] [] f fd
theorem atI_nat {α : Type} (xs : List α) (d : α) {i : Int} (h0 : 0 ≤ i) (h1 : i < xs.length) : atI xs i = some (xs.getD i.toNat d) := by
  unfold atI
  rw [ixN_pos h0 h1]
  have h : i.toNat < xs.length := by omega
  show xs[i.toNat]? = _
  rw [List.getElem?_eq_getElem h, List.getD_eq_getElem?_getD, List.getElem?_eq_getElem h]
  rfl
theorem getD_map (xs : List Int) (j : Nat) : (xs.map V.int).getD j (.int 0) = .int (xs.getD j 0) := by
  rw [List.getD_eq_getElem?_getD, List.getD_eq_getElem?_getD, List.getElem?_map]
  cases xs[j]? <;> rfl
theorem next_form {ds : List D} (h : nextS ds ≠ .bad) : ∃ gp st cells ix b, ds = [.rng gp st cells ix, .int b] ∧ nextOk cells ix b = true := by
  unfold nextS at h
  split at h
  · rename_i gp st cells ix b
    split at h
    · rename_i hok
      exact ⟨gp, st, cells, ix, b, rfl, hok⟩
    · exact absurd rfl h
  · exact absurd rfl h
theorem next_ret {gp : Nat} {st : Int} {cells : List Int} {ix b : Int} (h : nextOk cells ix b = true) : nextS [.rng gp st cells ix, .int b] = .ret false (.int (nextN st cells ix b).1) [.rng gp (nextN st cells ix b).2.1 (nextN st cells ix b).2.2.1 (nextN st cells ix b).2.2.2] := by
  unfold nextS
  dsimp only
  rw [if_pos h]
theorem ok_next {P : Program} {w : World} {K : PySem.W.Frag} {mg : Str → Option Value} {base : Heap} {cls : Clz} {exc : List (Addr × List Str)} {f : Addr} {fd : FuncData} (F : FnQ K "_law_next" st_next f fd) (m_int : mg "int" = none) (m_max : mg "max" = none) (m_len : mg "len" = none) :
    FnOk P w K mg base (L2N.CX P w) 1 f fd ["_law_h", "_law_bound"] (spV ⟨P, w, K, cls, exc⟩ fd_next) := by
  have sc := sc_next
  refine F.ok sc (fun vs H Q E h => h.1) fun cdv A outer s H vs Q E hr h => ⟨_, pss_cons (ps_set (i := 2) sc.nd rfl (.inl rfl) (pe_ix ix_list (pe_op op_cat (pe_ix ix_list (L2.pv 0) pe_int (fun _ _ => rfl)) (pe_lst (pa_cons pe_int pa_nil))) (pe_op op_modN (pe_callTy call_int1 rfl m_int (by decide +kernel) (pa_cons (pe_ix ix_list (L2.pv 0) pe_int (fun _ _ => rfl)) pa_nil)) (pe_callB (call_max2 rfl) rfl m_max (by decide +kernel) (pa_cons pe_int (pa_cons (pe_callB call_len rfl m_len (by decide +kernel) (pa_cons (pe_ix ix_list (L2.pv 0) pe_int (fun _ _ => rfl)) pa_nil)) pa_nil)))) (fun _ _ => rfl)))
    (pss_cons (ps_if (pt_cmpR op_ge (L2.pv 2) (pe_op op_pow pe_int pe_int) (nomark _))
      (pss_cons (ps_asg (pe_op op_fdivN (L2.pv 2) (L2.pv 1)) (pg_sub (pe_ix ix_list (L2.pv 0) pe_int (fun _ _ => rfl)) (pe_op op_modN (pe_callTy call_int1 rfl m_int (by decide +kernel) (pa_cons (pe_ix ix_list (L2.pv 0) pe_int (fun _ _ => rfl)) pa_nil)) (pe_callB call_len rfl m_len (by decide +kernel) (pa_cons (pe_ix ix_list (L2.pv 0) pe_int (fun _ _ => rfl)) pa_nil))) set_list))
        (pss_one (ps_ret (pe_op op_modN (pe_callTy call_int1 rfl m_int (by decide +kernel) (pa_cons (L2.pv 2) pa_nil)) (L2.pv 1))))) pss_nil)
    (pss_cons (ps_asg (pe_op op_modN (pe_callTy call_int1 rfl m_int (by decide +kernel) (pa_cons (pe_op op_add (pe_op op_add (pe_op op_mul (pe_ix ix_list (L2.pv 0) pe_int (fun _ _ => rfl)) pe_int) (pe_op op_mul (L2.pv 2) pe_int)) pe_int) pa_nil)) pe_int) (pg_sub (L2.pv 0) pe_int set_list))
    (pss_cons (ps_asg (pe_op op_add (pe_ix ix_list (L2.pv 0) pe_int (fun _ _ => rfl)) pe_int) (pg_sub (L2.pv 0) pe_int set_list))
    (pss_one (ps_ret (pe_op op_modN (pe_callTy call_int1 rfl m_int (by decide +kernel) (pa_cons (pe_op op_fdivN (pe_ix ix_list (L2.pv 0) pe_int (fun _ _ => rfl)) pe_int) pa_nil)) (L2.pv 1))))))), ?_⟩
  obtain ⟨hv, ds, F0, fp, hd, R, g⟩ := h
  have hv : vs.length = 2 := hv
  match vs, hv with
  | [v0, v1], _ =>
  have g : GdC ⟨P, w, K, cls, exc⟩ ⟨entryF [true] ds, fp, F0, H⟩ _ [true] Q E (nextS ds) := g
  obtain ⟨gp, st, cells, ix, b, rfl, hok⟩ := next_form (ds := ds) fun z => by rw [z] at g; exact g
  rw [next_ret hok] at g
  unfold nextOk at hok
  simp only [Bool.and_eq_true, decide_eq_true_eq] at hok
  obtain ⟨⟨⟨b0, b1⟩, i0⟩, cl⟩ := hok
  obtain ⟨p, hp0, ⟨hgp, q, hfp, hqp, hp, hq⟩, hnone⟩ := R.own 0 (.rng gp st cells ix) rfl
  obtain ⟨w1, hw1, rw1⟩ := R.fro 1 (.int b) rfl
  have e0 : v0 = .ref p := by simpa using hp0
  have e1 : v1 = w1 := by simpa using hw1
  subst e0 e1
  cases rw1
  have fin : ∀ {H' : Hp}, (∀ a o, H a = some o → a ≠ p → a ≠ q → H' a = some o) → H' p = some (.lst [.int (nextN st cells ix b).2.1, .ref q, .int (nextN st cells ix b).2.2.2, .int 14]) → H' q = some (.lst ((nextN st cells ix b).2.2.1.map V.int)) → Q (.int (nextN st cells ix b).1) H' := fun {H'} k h1 h2 => by
    have ow : ∀ a, a = p ∨ a = q → OwnS (entryF [true] [.rng gp st cells ix, .int b]) fp a := fun a ha => ⟨0, _, rfl, by rw [hfp]; rcases ha with rfl | rfl <;> simp⟩
    have sF : Same F0 H' := fun a o h => by
      have np : a ≠ p := fun z => by rw [hnone a (by rw [hfp, z]; simp)] at h; cases h
      have nq : a ≠ q := fun z => by rw [hnone a (by rw [hfp, z]; simp)] at h; cases h
      exact k a o (R.same a o h) np nq
    refine g _ [] F0 H' fp ⟨Same.refl F0, fun a o h1 h2 => (by have h2' : F0 a = none := h2; rw [h2'] at h1; cases h1), fun a o h1 h2 => k a o h1 (fun z => h2 (ow a (.inl z))) (fun z => h2 (ow a (.inr z))), fun a z => ?_⟩ sF (fun i d hi => ?_) ⟨rfl, .int _⟩ fun a z => nomatch z
    · obtain ⟨i, d, hi, ha⟩ := z
      cases i with
      | zero => exact .inr ⟨0, _, rfl, ha⟩
      | succ i => simp [exitF] at hi
    · cases i with
      | succ i => simp [exitF] at hi
      | zero =>
        have : d = .rng gp (nextN st cells ix b).2.1 (nextN st cells ix b).2.2.1 (nextN st cells ix b).2.2.2 := by simpa [exitF] using hi.symm
        subst this
        refine ⟨p, rfl, ⟨hgp, q, hfp, hqp, h1, h2⟩, hnone, fun j e hj hne => ?_⟩
        cases j with
        | zero => exact absurd rfl hne
        | succ j => simp [exitF] at hj
  have hpq : p ≠ q := fun z => hqp z.symm
  -- the cell
  refine ⟨.ref p, rfl, p, _, 1, _, rfl, rfl, .inl (.of hp), rfl, ?_⟩
  refine ⟨by decide, fun l1 hl1 => ?_⟩
  have n1 : ∀ a o, H a = some o → a ≠ l1 := fun a o h z => by rw [z, hl1] at h; cases h
  have hp1 : upd H l1 (.lst [.int 0]) p = _ := (upd_ne (n1 p _ hp)).trans hp
  have hq1 : upd H l1 (.lst [.int 0]) q = _ := (upd_ne (n1 q _ hq)).trans hq
  refine ⟨q, l1, _, _, rfl, rfl, hq1, upd_same, by rw [List.length_map, sizeLine_eq]; simp; omega, fun l2 hl2 => ?_⟩
  have n2 : ∀ a o, upd H l1 (.lst [.int 0]) a = some o → a ≠ l2 := fun a o h z => by rw [z, hl2] at h; cases h
  have hp2 : upd (upd H l1 (.lst [.int 0])) l2 (.lst (cells.map V.int ++ [.int 0])) p = some (.lst [.int st, .ref q, .int ix, .int 14]) := (upd_ne (n2 p _ hp1)).trans hp1
  have hq2 : upd (upd H l1 (.lst [.int 0])) l2 (.lst (cells.map V.int ++ [.int 0])) q = some (.lst (cells.map V.int)) := (upd_ne (n2 q _ hq1)).trans hq1
  have k2 : ∀ a o, H a = some o → upd (upd H l1 (.lst [.int 0])) l2 (.lst (cells.map V.int ++ [.int 0])) a = some o := fun a o h => by
    have h1 : upd H l1 (.lst [.int 0]) a = some o := (upd_ne (n1 a o h)).trans h
    exact (upd_ne (n2 a o h1)).trans h1
  have h2l : upd (upd H l1 (.lst [.int 0])) l2 (.lst (cells.map V.int ++ [.int 0])) l2 = some (.lst (cells.map V.int ++ [.int 0])) := upd_same
  generalize upd (upd H l1 (.lst [.int 0])) l2 (.lst (cells.map V.int ++ [.int 0])) = H2 at hp2 hq2 k2 h2l
  refine ⟨.ref p, rfl, p, _, 2, _, rfl, rfl, .inl (.of hp2), rfl, ?_⟩
  refine .inl ⟨ix, rfl, ?_⟩
  refine ⟨.ref p, rfl, p, _, 1, _, rfl, rfl, .inl (.of hp2), rfl, ?_⟩
  refine ⟨.ref q, cells.length, rfl, .inl ⟨_, .inl (.of hq2), by simp⟩, ?_⟩
  refine ⟨1, cells.length, rfl, ?_⟩
  have hm : (if (cells.length : Int) > 1 then (cells.length : Int) else 1) = ((max 1 cells.length : Nat) : Int) := by split <;> omega
  rw [hm]
  refine ⟨ix, ((max 1 cells.length : Nat) : Int), rfl, rfl, by omega, ?_⟩
  have mp : (0 : Int) < ((max 1 cells.length : Nat) : Int) := by omega
  have r0 : 0 ≤ ix.fmod ((max 1 cells.length : Nat) : Int) := Int.fmod_nonneg i0 (by omega)
  have r1 : ix.fmod ((max 1 cells.length : Nat) : Int) < ((max 1 cells.length : Nat) : Int) := Int.fmod_lt_of_pos ix mp
  have hat : atI (cells.map V.int ++ [.int 0]) (ix.fmod ((max 1 cells.length : Nat) : Int)) = some (.int (cellN cells ix)) := by
    rw [atI_nat _ (.int 0) r0 (by rw [List.length_append, List.length_map, List.length_singleton]; omega)]
    have e : cells.map V.int ++ [V.int 0] = (cells ++ [0]).map V.int := by simp
    rw [e, getD_map]
    rfl
  refine ⟨l2, _, _, .int (cellN cells ix), rfl, rfl, .inl (.of h2l), hat, ?_⟩
  generalize hcc : cellN cells ix = c at *
  refine ⟨.int c, rfl, 10, 18, rfl, rfl, ⟨by decide, by decide, by decide⟩, ?_⟩
  refine ⟨c, _, rfl, rfl, _, rfl, ?_⟩
  have e18 : (10 : Int) ^ (18 : Int).toNat = 1000000000000000000 := by decide
  rw [e18]
  by_cases hc : (1000000000000000000 : Int) ≤ c
  · rw [decide_eq_true hc]
    refine iteT ?_
    have hne : 0 < cells.length := by
      rcases Nat.eq_zero_or_pos cells.length with z | z
      · have hnil := List.eq_nil_of_length_eq_zero z
        subst hnil
        have e1 : ix.fmod ((max 1 ([] : List Int).length : Nat) : Int) = 0 := by
          have a0 := r0
          have a1 := r1
          simp at a0 a1 ⊢
        have : c = 0 := by
          rw [← hcc]
          unfold cellN
          rw [e1]
          rfl
        omega
      · exact z
    have hN : nextN st cells ix b = (c.fmod b, st, cells.set (ix.fmod (cells.length : Int)).toNat (c.fdiv b), ix) := by
      unfold nextN
      rw [hcc]
      exact if_pos hc
    rw [hN] at fin
    have s0 : 0 ≤ ix.fmod (cells.length : Int) := Int.fmod_nonneg i0 (by omega)
    have s1 : ix.fmod (cells.length : Int) < (cells.length : Int) := Int.fmod_lt_of_pos ix (by omega)
    refine ⟨.int c, rfl, .int b, rfl, c, b, rfl, rfl, ⟨by omega, by omega⟩, ?_⟩
    refine ⟨.ref p, rfl, p, _, 1, _, rfl, rfl, .inl (.of hp2), rfl, ?_⟩
    refine ⟨.ref p, rfl, p, _, 2, _, rfl, rfl, .inl (.of hp2), rfl, ?_⟩
    refine .inl ⟨ix, rfl, ?_⟩
    refine ⟨.ref p, rfl, p, _, 1, _, rfl, rfl, .inl (.of hp2), rfl, ?_⟩
    refine ⟨.ref q, cells.length, rfl, .inl ⟨_, .inl (.of hq2), by simp⟩, ?_⟩
    refine ⟨ix, cells.length, rfl, rfl, by omega, ?_⟩
    refine ⟨q, _, _, (ix.fmod (cells.length : Int)).toNat, rfl, rfl, hq2, ixN_pos s0 (by rw [List.length_map]; exact s1), ?_⟩
    refine ⟨.int c, rfl, .inl ⟨c, rfl, .int b, rfl, c, b, rfl, rfl, by omega, ?_⟩⟩
    exact fin (fun a o h ap aq => (upd_ne aq).trans (k2 a o h)) ((upd_ne hpq).trans hp2) (by rw [upd_same, List.map_set])
  · rw [decide_eq_false hc]
    refine iteF ?_
    have hN : nextN st cells ix b = ((((st * 48271 + c * 69621 + 11).fmod 2147483647).fdiv 7).fmod b, (st * 48271 + c * 69621 + 11).fmod 2147483647, cells, ix + 1) := by
      unfold nextN
      rw [hcc]
      exact if_neg hc
    rw [hN] at fin
    refine ⟨.ref p, rfl, p, _, 0, _, rfl, rfl, .inl (.of hp2), rfl, st, 48271, rfl, rfl, .inr ⟨by decide, by decide⟩, ?_⟩
    refine ⟨.int c, rfl, c, 69621, rfl, rfl, .inr ⟨by decide, by decide⟩, ?_⟩
    refine ⟨_, _, rfl, rfl, ?_⟩
    refine ⟨_, 11, rfl, rfl, ?_⟩
    refine .inl ⟨_, rfl, ?_⟩
    refine ⟨_, 2147483647, rfl, rfl, (show (2147483647 : Int) ≠ 0 by decide), ?_⟩
    refine ⟨.ref p, rfl, p, _, 0, 0, rfl, rfl, hp2, rfl, ?_⟩
    refine ⟨.ref p, rfl, p, _, 2, _, rfl, rfl, .inl (.of upd_same), rfl, ix, 1, rfl, rfl, ?_⟩
    refine ⟨.ref p, rfl, p, _, 2, 2, rfl, rfl, upd_same, rfl, ?_⟩
    refine ⟨.ref p, rfl, p, _, 0, _, rfl, rfl, .inl (.of upd_same), rfl, _, 7, rfl, rfl, ⟨by decide, by decide⟩, ?_⟩
    refine .inl ⟨_, rfl, .int b, rfl, _, b, rfl, rfl, by omega, ?_⟩
    refine fin (fun a o h ap aq => (upd_ne ap).trans ((upd_ne ap).trans (k2 a o h))) upd_same ?_
    exact (upd_ne (Ne.symm hpq)).trans ((upd_ne (Ne.symm hpq)).trans hq2)
end VL

namespace VL
open PySem PySem.Spec PyProof.Rows L2
theorem sc_mix : FnScope ["_law_script", "_law_seed", "_law_state", "_law_cell"] ["_law_script", "_law_seed"] (defScope st_mix) := ⟨rfl, rfl, rfl, by decide +kernel, rfl, by decide +kernel, by decide +kernel⟩
theorem ok_mix {P : Program} {w : World} {K : PySem.W.Frag} {mg : Str → Option Value} {base : Heap} {f : Addr} {fd : FuncData} (F : FnQ K "_law_mix" st_mix f fd) (m_int : mg "int" = none) (m_list : mg "list" = none) :
    FnOk P w K mg base (L2N.CX P w) 1 f fd ["_law_script", "_law_seed"] (spMix K) := by
  have sc := sc_mix
  refine F.ok sc (fun vs H Q E h => by obtain ⟨a, ns, seed, rfl, _⟩ := h; rfl) fun cdv A outer s H vs Q E hr h => ⟨_, pss_cons (ps_set (i := 2) sc.nd rfl (.inl rfl) (L2.pv 1))
    (pss_cons (ps_for PassesOwn.leaving rfl (pi_list (L2.pv 0)) (pg_name (i := 3) sc.nd rfl (.inl rfl)) (pss_one (ps_set (i := 2) sc.nd rfl (.inl rfl) (pe_op op_modN (pe_callTy call_int1 rfl m_int (by decide +kernel) (pa_cons (pe_op op_add (pe_op op_add (pe_op op_mul (L2.pv 2) pe_int) (pe_op op_modN (pe_callTy call_int1 rfl m_int (by decide +kernel) (pa_cons (L2.pv 3) pa_nil)) pe_int)) pe_int) pa_nil)) pe_int))))
    (pss_one (ps_ret (pe_lst (pa_cons (L2.pv 2) (pa_cons (pe_callTy call_list_of rfl m_list (by decide +kernel) (pa_cons (L2.pv 0) pa_nil)) (pa_cons pe_int (pa_cons pe_int pa_nil)))))))), ?_⟩
  obtain ⟨a, ns, seed, rfl, hS, q⟩ := h
  refine ⟨.int seed, rfl, ?_⟩
  refine ⟨.ref a, rfl, a, rfl, ⟨_, hS⟩, ?_⟩
  refine ⟨fun i m σ H' => H' = H ∧ m + i = ns.length ∧ σ.length = 4 ∧ σ[0]? = some (some (.ref a)) ∧ σ[2]? = some (some (.int (mixN (ns.take i) seed))), ⟨ns.length, rfl, rfl, rfl, rfl, rfl⟩, ?_⟩
  rintro i m σ H' ⟨rfl, hm, hl, h0, h2⟩
  by_cases hi : i < ns.length
  · have hx : (ns.map V.int)[i]? = some (.int ns[i]) := by rw [List.getElem?_map, List.getElem?_eq_getElem hi]; rfl
    refine .inr ⟨⟨_, _, hS, hx⟩, fun σ' H'' => H'' = H' ∧ (m - 1) + (i + 1) = ns.length ∧ σ'.length = 4 ∧ σ'[0]? = some (some (.ref a)) ∧ σ'[2]? = some (some (.int (mixN (ns.take (i + 1)) seed))), fun σ' H'' h => ⟨m - 1, by omega, h⟩, fun x H'' hy => ?_⟩
    obtain ⟨rfl, hy2⟩ := hy
    have := hy2 _ hS
    rw [hx] at this
    cases this
    refine ⟨.int (mixN (ns.take i) seed), by rw [List.getElem?_set_ne (by decide)]; exact h2, _, 48271, rfl, rfl, .inr ⟨by decide, by decide⟩, ?_⟩
    refine ⟨.int ns[i], List.getElem?_set_self (by omega), .inl ⟨_, rfl, ?_⟩⟩
    refine ⟨_, 2147483629, rfl, rfl, (show (2147483629 : Int) ≠ 0 by decide), ?_⟩
    refine ⟨_, _, rfl, rfl, ?_⟩
    refine ⟨_, 1, rfl, rfl, ?_⟩
    refine .inl ⟨_, rfl, ?_⟩
    refine ⟨_, 2147483647, rfl, rfl, (show (2147483647 : Int) ≠ 0 by decide), ?_⟩
    refine ⟨rfl, by omega, by rw [List.length_set, List.length_set]; exact hl, by rw [List.getElem?_set_ne (by decide), List.getElem?_set_ne (by decide)]; exact h0, ?_⟩
    rw [List.getElem?_set_self (by rw [List.length_set]; omega)]
    unfold mixN
    rw [List.take_succ, List.getElem?_eq_getElem hi, List.foldl_append]
    rfl
  · have hi' : i = ns.length := by omega
    refine .inl ⟨⟨_, hS, by rw [List.length_map]; omega⟩, ?_⟩
    rw [hi', List.take_length] at h2
    refine ⟨_, h2, .ref a, h0, a, _, rfl, .inl hS, fun l hl1 => ?_⟩
    exact ⟨show 4 ≤ sizeLine by decide, fun p hp => q l p hl1 hp⟩
end VL

namespace VL
open PySem PySem.Spec PyProof.Rows L2

abbrev FnM (K : PySem.W.Frag) (x q : Str) (st : Stmt) (f : Addr) (fd : FuncData) : Prop := FunD K x q (defArgs st) (defBody st) (defScope st) [] [] f fd

/-! _law_bare -/
theorem sc__law_bare : FnScope ["_law_k"] ["_law_k"] (defScope st__law_bare) := ⟨rfl, rfl, rfl, by decide +kernel, rfl, by decide +kernel, by decide +kernel⟩
theorem ok__law_bare {P : Program} {w : World} {K : PySem.W.Frag} {mg : Str → Option Value} {base : Heap} {cls : List Zc} {exc : List (Addr × List Str)} {f : Addr} {fd : FuncData} (F : FnM K "_law_bare" "_law_bare" st__law_bare f fd) (e_InvalidBits : Exc0 K mg exc 6 "InvalidBits") (e_InvalidNumber : Exc0 K mg exc 8 "InvalidNumber") (e_InvalidPicture : Exc0 K mg exc 4 "InvalidPicture") (e_InvalidPrice : Exc0 K mg exc 9 "InvalidPrice") (e_InvalidValues : Exc0 K mg exc 1 "InvalidValues") (e_NotComparable : Exc0 K mg exc 7 "NotComparable") : FnOk P w K mg base (L2N.CX P w) 1 f fd ["_law_k"] (spV ⟨P, w, K, ⟨cls, [], []⟩, exc⟩ fd__law_bare) :=
  have sc := sc__law_bare
  fnV (G := []) (C := []) (b := ir__law_bare) F sc rfl rfl rfl fun cdv A outer s H E hr =>
    (pss_consV (ps_ifV (pt_cmpV (hu_of hr) (op := .eq) rfl (nomark _) (pv' 0) (pe_cstV (d := (.int 0)) (by decide +kernel))) (pss_consV (ps_rai0E e_InvalidValues rfl rfl takesV) pss_nilV) pss_nilV) (pss_consV (ps_ifV (pt_cmpV (hu_of hr) (op := .eq) rfl (nomark _) (pv' 0) (pe_cstV (d := (.int 1)) (by decide +kernel))) (pss_consV (ps_rai0E e_InvalidPicture rfl rfl takesV) pss_nilV) pss_nilV) (pss_consV (ps_ifV (pt_cmpV (hu_of hr) (op := .eq) rfl (nomark _) (pv' 0) (pe_cstV (d := (.int 2)) (by decide +kernel))) (pss_consV (ps_rai0E e_InvalidBits rfl rfl takesV) pss_nilV) pss_nilV) (pss_consV (ps_ifV (pt_cmpV (hu_of hr) (op := .eq) rfl (nomark _) (pv' 0) (pe_cstV (d := (.int 3)) (by decide +kernel))) (pss_consV (ps_rai0E e_NotComparable rfl rfl takesV) pss_nilV) pss_nilV) (pss_consV (ps_ifV (pt_cmpV (hu_of hr) (op := .eq) rfl (nomark _) (pv' 0) (pe_cstV (d := (.int 4)) (by decide +kernel))) (pss_consV (ps_rai0E e_InvalidNumber rfl rfl takesV) pss_nilV) pss_nilV) (pss_consV (ps_rai0E e_InvalidPrice rfl rfl takesV) pss_nilV))))))
/-! _law_thrown -/
theorem sc__law_thrown : FnScope ["_law_k", "_law_one", "_law_two"] ["_law_k", "_law_one", "_law_two"] (defScope st__law_thrown) := ⟨rfl, rfl, rfl, by decide +kernel, rfl, by decide +kernel, by decide +kernel⟩
theorem ok__law_thrown {P : Program} {w : World} {K : PySem.W.Frag} {mg : Str → Option Value} {base : Heap} {cls : List Zc} {exc : List (Addr × List Str)} {f : Addr} {fd : FuncData} (F : FnM K "_law_thrown" "_law_thrown" st__law_thrown f fd) (c__law_bare : Cal P w K mg base cls exc "_law_bare" 1 fd__law_bare) (e_InvalidText : ExcN P w K mg base exc 10 2 "InvalidText") (e_InvalidWay : ExcN P w K mg base exc 2 1 "InvalidWay") (e_NotWritten : ExcN P w K mg base exc 5 1 "NotWritten") (e_UnknownWay : ExcN P w K mg base exc 3 1 "UnknownWay") : FnOk P w K mg base (L2N.CX P w) 3 f fd ["_law_k", "_law_one", "_law_two"] (spV ⟨P, w, K, ⟨cls, [], []⟩, exc⟩ fd__law_thrown) :=
  have sc := sc__law_thrown
  fnV (G := [fd__law_bare]) (C := []) (b := ir__law_thrown) F sc rfl rfl rfl fun cdv A outer s H E hr =>
    (pss_consV (ps_ifV (pt_cmpV (hu_of hr) (op := .lt) rfl (nomark _) (pv' 0) (pe_cstV (d := (.int 6)) (by decide +kernel))) (pss_consV (ps_expV (pe_calV c__law_bare hr (by decide) rfl takesV rfl (by first | exact .inl rfl | exact .inr ⟨rfl, by decide⟩) (pa_consV (fun _ _ h => nomatch h) (pv' 0) pa_nilV))) pss_nilV) pss_nilV) (pss_consV (ps_ifV (pt_cmpV (hu_of hr) (op := .eq) rfl (nomark _) (pv' 0) (pe_cstV (d := (.int 6)) (by decide +kernel))) (pss_consV (ps_raiNE (k := 0) e_InvalidWay hr rfl rfl takesV (pa_consV (fun _ _ h => nomatch h) (pv' 1) pa_nilV)) pss_nilV) pss_nilV) (pss_consV (ps_ifV (pt_cmpV (hu_of hr) (op := .eq) rfl (nomark _) (pv' 0) (pe_cstV (d := (.int 7)) (by decide +kernel))) (pss_consV (ps_raiNE (k := 0) e_UnknownWay hr rfl rfl takesV (pa_consV (fun _ _ h => nomatch h) (pv' 1) pa_nilV)) pss_nilV) pss_nilV) (pss_consV (ps_ifV (pt_cmpV (hu_of hr) (op := .eq) rfl (nomark _) (pv' 0) (pe_cstV (d := (.int 8)) (by decide +kernel))) (pss_consV (ps_raiNE (k := 0) e_NotWritten hr rfl rfl takesV (pa_consV (fun _ _ h => nomatch h) (pv' 1) pa_nilV)) pss_nilV) pss_nilV) (pss_consV (ps_raiNE (k := 0) e_InvalidText hr rfl rfl takesV (pa_consV (fun _ _ h => nomatch h) (pv' 1) (pa_consV (fun _ _ h => nomatch h) (pv' 2) pa_nilV))) pss_nilV)))))
/-! _law_parts -/
theorem sc__law_parts : FnScope ["_law_k", "_law_e"] ["_law_k", "_law_e"] (defScope st__law_parts) := ⟨rfl, rfl, rfl, by decide +kernel, rfl, by decide +kernel, by decide +kernel⟩
theorem ok__law_parts {P : Program} {w : World} {K : PySem.W.Frag} {mg : Str → Option Value} {base : Heap} {cls : List Zc} {exc : List (Addr × List Str)} {f : Addr} {fd : FuncData} (F : FnM K "_law_parts" "_law_parts" st__law_parts f fd) (x_index_2_3 : FldC K exc [2, 3] "index" 0) (x_line_10 : FldC K exc [10] "line" 0) (x_place_5 : FldC K exc [5] "place" 0) (x_word_10 : FldC K exc [10] "word" 1) : FnOkS P w K mg base (L2N.CX P w) 1 f fd ["_law_k", "_law_e"] (spVS P w K cls exc fd__law_parts) :=
  have sc := sc__law_parts
  fnVS (G := []) (C := []) (b := ir__law_parts) F sc rfl rfl rfl fun xl cdv A outer s H E hr lk =>
    (pss_consV (ps_ifV (pt_cmpV (hu_ofH hr) (op := .lt) rfl (nomark _) (pv' 0) (pe_cstV (d := (.int 6)) (by decide +kernel))) (pss_consV (ps_retV (pe_lstV pa_nilV)) pss_nilV) pss_nilV) (pss_consV (ps_ifV (pt_cmpV (hu_ofH hr) (op := .lt) rfl (nomark _) (pv' 0) (pe_cstV (d := (.int 8)) (by decide +kernel))) (pss_consV (ps_retV (pe_lstV (pa_consV (fun _ _ h => nomatch h) (pe_xflC (cs := [2, 3]) (k := 0) lk x_index_2_3 (pv' 1)) pa_nilV))) pss_nilV) pss_nilV) (pss_consV (ps_retV (pe_iteV (pt_cmpV (hu_ofH hr) (op := .eq) rfl (nomark _) (pv' 0) (pe_cstV (d := (.int 8)) (by decide +kernel))) (pe_lstV (pa_consV (fun _ _ h => nomatch h) (pe_xflC (cs := [5]) (k := 0) lk x_place_5 (pv' 1)) pa_nilV)) (pe_lstV (pa_consV (fun _ _ h => nomatch h) (pe_xflC (cs := [10]) (k := 0) lk x_line_10 (pv' 1)) (pa_consV (fun _ _ h => nomatch h) (pe_xflC (cs := [10]) (k := 1) lk x_word_10 (pv' 1)) pa_nilV))))) pss_nilV)))
/-! _law_classes -/
theorem sc__law_classes : FnScope ["_law_e", "_law_found"] ["_law_e"] (defScope st__law_classes) := ⟨rfl, rfl, rfl, by decide +kernel, rfl, by decide +kernel, by decide +kernel⟩
theorem ok__law_classes {P : Program} {w : World} {K : PySem.W.Frag} {mg : Str → Option Value} {base : Heap} {cls : List Zc} {exc : List (Addr × List Str)} {f : Addr} {fd : FuncData} (F : FnM K "_law_classes" "_law_classes" st__law_classes f fd) (m_isinstance : mg "isinstance" = none) (i_InvalidBits : IsaM K mg exc "InvalidBits" [6]) (i_InvalidNumber : IsaM K mg exc "InvalidNumber" [8]) (i_InvalidPicture : IsaM K mg exc "InvalidPicture" [4]) (i_InvalidPrice : IsaM K mg exc "InvalidPrice" [9]) (i_InvalidText : IsaM K mg exc "InvalidText" [10]) (i_InvalidValues : IsaM K mg exc "InvalidValues" [1]) (i_InvalidWay : IsaM K mg exc "InvalidWay" [2]) (i_NotComparable : IsaM K mg exc "NotComparable" [7]) (i_NotWritten : IsaM K mg exc "NotWritten" [5]) (i_UnknownWay : IsaM K mg exc "UnknownWay" [3]) : FnOkS P w K mg base (L2N.CX P w) 1 f fd ["_law_e"] (spVS P w K cls exc fd__law_classes) :=
  have sc := sc__law_classes
  fnVS (G := []) (C := []) (b := ir__law_classes) F sc rfl rfl rfl fun xl cdv A outer s H E hr lk =>
    (pss_consV (ps_asgN sc.nd rfl (by first | exact .inl rfl | exact .inr rfl) (pe_lstV (pa_consV (fun _ _ h => nomatch h) (pe_xisM lk i_InvalidValues rfl m_isinstance rfl (pv' 0)) (pa_consV (fun _ _ h => nomatch h) (pe_xisM lk i_InvalidPicture rfl m_isinstance rfl (pv' 0)) (pa_consV (fun _ _ h => nomatch h) (pe_xisM lk i_InvalidBits rfl m_isinstance rfl (pv' 0)) pa_nilV))))) (pss_consV (ps_asgN sc.nd rfl (by first | exact .inl rfl | exact .inr rfl) (pe_binV (op := .add) rfl (pv' 1) (pe_lstV (pa_consV (fun _ _ h => nomatch h) (pe_xisM lk i_NotComparable rfl m_isinstance rfl (pv' 0)) (pa_consV (fun _ _ h => nomatch h) (pe_xisM lk i_InvalidNumber rfl m_isinstance rfl (pv' 0)) (pa_consV (fun _ _ h => nomatch h) (pe_xisM lk i_InvalidPrice rfl m_isinstance rfl (pv' 0)) pa_nilV)))))) (pss_consV (ps_asgN sc.nd rfl (by first | exact .inl rfl | exact .inr rfl) (pe_binV (op := .add) rfl (pv' 1) (pe_lstV (pa_consV (fun _ _ h => nomatch h) (pe_xisM lk i_InvalidWay rfl m_isinstance rfl (pv' 0)) (pa_consV (fun _ _ h => nomatch h) (pe_xisM lk i_UnknownWay rfl m_isinstance rfl (pv' 0)) (pa_consV (fun _ _ h => nomatch h) (pe_xisM lk i_NotWritten rfl m_isinstance rfl (pv' 0)) pa_nilV)))))) (pss_consV (ps_retV (pe_binV (op := .add) rfl (pv' 1) (pe_lstV (pa_consV (fun _ _ h => nomatch h) (pe_xisM lk i_InvalidText rfl m_isinstance rfl (pv' 0)) pa_nilV)))) pss_nilV))))
/-! _law_right -/
theorem sc__law_right : FnScope ["_law_k", "_law_one", "_law_two", "_law_good", "_law_due", "_law_e", "_law_other"] ["_law_k", "_law_one", "_law_two"] (defScope st__law_right) := ⟨rfl, rfl, rfl, by decide +kernel, rfl, by decide +kernel, by decide +kernel⟩
theorem ok__law_right {P : Program} {w : World} {K : PySem.W.Frag} {mg : Str → Option Value} {base : Heap} {cls : List Zc} {exc : List (Addr × List Str)} {f : Addr} {fd : FuncData} (F : FnM K "_law_right" "_law_right" st__law_right f fd) (m_ValueError : mg "ValueError" = none) (m_int : mg "int" = none) (m_isinstance : mg "isinstance" = none) (m_range : mg "range" = none) (c__law_thrown : Cal P w K mg base cls exc "_law_thrown" 3 fd__law_thrown) (c__law_parts : CalS P w K mg base cls exc "_law_parts" 1 fd__law_parts) (c__law_classes : CalS P w K mg base cls exc "_law_classes" 1 fd__law_classes) (c_CodeError_ : CatC K mg exc "CodeError" [0, 1, 2, 3, 4, 5, 6, 7, 8, 9, 10]) (j_ValueError : IsaC K exc (.type "ValueError") [0, 1, 2, 3, 4, 5, 6, 7, 8, 9, 10]) : FnOk P w K mg base (L2N.CX P w) 4 f fd ["_law_k", "_law_one", "_law_two"] (spV ⟨P, w, K, ⟨cls, [], []⟩, exc⟩ fd__law_right) :=
  have sc := sc__law_right
  fnV (G := [fd__law_thrown, fd__law_parts, fd__law_classes]) (C := []) (b := ir__law_right) F sc rfl rfl rfl fun cdv A outer s H E hr =>
    (pss_consV (ps_asgN sc.nd rfl (by first | exact .inl rfl | exact .inr rfl) (pe_cstV (d := (.bl false)) (by decide +kernel))) (pss_consV (ps_asgN sc.nd rfl (by first | exact .inl rfl | exact .inr rfl) (pe_binV (op := .add) rfl (pe_slcV (pe_lstV (pa_consV (fun _ _ h => nomatch h) (pv' 1) pa_nilV)) po_noV (po_soV (pe_bltT (bt := .int) call_intV rfl m_int (by decide +kernel) (pa_consV (fun _ _ h => nomatch h) (pe_cmpV (hu_of hr) (op := .gt) rfl (nomark _) (pv' 0) (pe_cstV (d := (.int 5)) (by decide +kernel))) pa_nilV)))) (pe_slcV (pe_lstV (pa_consV (fun _ _ h => nomatch h) (pv' 2) pa_nilV)) po_noV (po_soV (pe_bltT (bt := .int) call_intV rfl m_int (by decide +kernel) (pa_consV (fun _ _ h => nomatch h) (pe_cmpV (hu_of hr) (op := .gt) rfl (nomark _) (pv' 0) (pe_cstV (d := (.int 8)) (by decide +kernel))) pa_nilV)))))) (pss_consV (ps_trxV rfl rfl takesV c_CodeError_ rfl sc.nd (j := 5) rfl rfl (fun _ _ _ tk1 _ => (pss_consV (ps_expV (pe_calV c__law_thrown hr (by decide) rfl tk1 rfl (by first | exact .inl rfl | exact .inr ⟨rfl, by decide⟩) (pa_consV (fun _ _ h => nomatch h) (pv' 0) (pa_consV (fun _ _ h => nomatch h) (pv' 1) (pa_consV (fun _ _ h => nomatch h) (pv' 2) pa_nilV))))) pss_nilV)) (fun _ _ _ _ _ hz hf => (pss_consV (ps_asgN sc.nd rfl (by first | exact .inl rfl | exact .inr rfl) (pe_conV (k := true) rfl (pe_xisB (lk_suite hz.zc hf) m_ValueError (by decide +kernel) j_ValueError rfl m_isinstance rfl (pv' 5)) (pe_one (pe_cmpV (hu_raw hr :) (op := .eq) rfl (nomark _) (pe_calxV (lk_suite hz.zc hf) c__law_classes (room_suite hr) (by decide) rfl rfl rfl (pa_consV (fun _ _ h => nomatch h) (pv' 5) pa_nilV)) (pe_lcS (ownN := [("_law_other", 6)]) (hot_suite hz hf).1 (hot_suite hz hf).2 sc.nd (pi_rng1H rfl m_range (pe_cstV (d := (.int 10)) (by decide +kernel))) (blkOk_by rfl) (by decide) (fun _ _ _ _ _ => (.nm sc.nd rfl (by first | exact .inl rfl | exact .inr rfl) (by first | exact .inl rfl | exact .inr rfl))) (fun _ _ _ _ _ => pts_noV) (fun _ _ _ _ _ => (pe_cmpV (hu_raw hr :) (op := .eq) rfl (nomark _) (pv' 6) (pv' 0)))))))) (pss_consV (ps_asgN sc.nd rfl (by first | exact .inl rfl | exact .inr rfl) (pe_conV (k := true) rfl (pv' 3) (pe_one (pe_cmpV (hu_raw hr :) (op := .eq) rfl (nomark _) (pe_calxV (lk_suite hz.zc hf) c__law_parts (room_suite hr) (by decide) rfl rfl rfl (pa_consV (fun _ _ h => nomatch h) (pv' 0) (pa_consV (fun _ _ h => nomatch h) (pv' 5) pa_nilV))) (pv' 4))))) pss_nilV)))) (pss_consV (ps_retV (pv' 3)) pss_nilV))))
/-! law -/
theorem sc_law : FnScope ["_law_script", "_law_h", "_law_one", "_law_two", "_law_k"] ["_law_script"] (defScope st_law) := ⟨rfl, rfl, rfl, by decide +kernel, rfl, by decide +kernel, by decide +kernel⟩
theorem ok_law {P : Program} {w : World} {K : PySem.W.Frag} {mg : Str → Option Value} {base : Heap} {cls : List Zc} {exc : List (Addr × List Str)} {f fM : Addr} {fd fdM : FuncData} (F : FnQ K "law" st_law f fd) (m_all : mg "all" = none) (m_range : mg "range" = none) (c__law_right : Cal P w K mg base cls exc "_law_right" 4 fd__law_right) (c__law_next : Cal P w K mg base cls exc "_law_next" 1 fd__law_next) (FM : FnQ K "_law_mix" st_mix fM fdM) (gM : mg "_law_mix" = some (.ref fM)) (mm_int : mg "int" = none) (mm_list : mg "list" = none)
    (plain : ∀ (p : Addr) (st : Int) (cells : List Int), cells.length ≤ 63 → ∃ r, evSs G_law [] ir_law ([none, some (true, .rng p st cells 0)] ++ List.replicate 3 none) = .rt false (.bl true) r) :
    FnOk P w K mg base (L2N.CX P w) 5 f fd ["_law_script"] (spLaw K) := by
  have sc := sc_law
  have bM : Binds K fdM ["_law_script", "_law_seed"] [] := FM.bindsN fun _ _ _ _ _ _ us hl => match us, hl with | [_, _], _ => rfl
  exact law_ok (seed := 19) F sc rfl plain fun cdv A outer s H E hr => law_walk (ps_set (i := 1) sc.nd rfl (by first | exact .inl rfl | exact .inr rfl) (pe_call (E := fun _ _ _ => False) (ok_mix FM mm_int mm_list) (hr.mono (by decide)) rfl gM FM.kp bM .nil pass_false (pa_cons (L2.pv 0) (pa_cons pe_int pa_nil))))
    (pss_consV (ps_asgN sc.nd rfl (by first | exact .inl rfl | exact .inr rfl) (pe_idxV (hu_of hr) (fun _ _ => rfl) (pe_lstV (pa_consV (fun _ _ h => nomatch h) (pe_cstV (d := (.str "a")) (by decide +kernel)) (pa_consV (fun _ _ h => nomatch h) (pe_cstV (d := (.str "")) (by decide +kernel)) (pa_consV (fun _ _ h => nomatch h) (pe_cstV (d := (.int 7)) (by decide +kernel)) (pa_consV (fun _ _ h => nomatch h) (pe_tupV (pa_consV (fun _ _ h => nomatch h) (pe_cstV (d := (.str "raw")) (by decide +kernel)) (pa_consV (fun _ _ h => nomatch h) (pe_cstV (d := (.int 0)) (by decide +kernel)) pa_nilV))) (pa_consV (fun _ _ h => nomatch h) (pe_cstV (d := .non) (by decide +kernel)) pa_nilV)))))) (pe_calV c__law_next hr (by decide) rfl takesV rfl (by first | exact .inl rfl | exact .inr ⟨rfl, by decide⟩) (pa_consV (fun _ _ h => nomatch h) (pv' 1) (pa_consV (fun _ _ h => nomatch h) (pe_cstV (d := (.int 5)) (by decide +kernel)) pa_nilV))))) (pss_consV (ps_asgN sc.nd rfl (by first | exact .inl rfl | exact .inr rfl) (pe_idxV (hu_of hr) (fun _ _ => rfl) (pe_lstV (pa_consV (fun _ _ h => nomatch h) (pe_tupV pa_nilV) (pa_consV (fun _ _ h => nomatch h) (pe_cstV (d := (.str "kind")) (by decide +kernel)) (pa_consV (fun _ _ h => nomatch h) (pe_cstV (d := (.int 0)) (by decide +kernel)) (pa_consV (fun _ _ h => nomatch h) (pe_cstV (d := .non) (by decide +kernel)) pa_nilV))))) (pe_calV c__law_next hr (by decide) rfl takesV rfl (by first | exact .inl rfl | exact .inr ⟨rfl, by decide⟩) (pa_consV (fun _ _ h => nomatch h) (pv' 1) (pa_consV (fun _ _ h => nomatch h) (pe_cstV (d := (.int 4)) (by decide +kernel)) pa_nilV))))) (pss_consV (ps_retV (pe_bltB (bt := .all) (call_allV rfl) rfl m_all (by decide +kernel) (pa_consV (fun _ _ h => nomatch h) (pe_lcV (ownN := [("_law_k", 4)]) (pr := false) rfl sc.nd (pi_rng1V rfl m_range (pe_cstV (d := (.int 10)) (by decide +kernel))) (blkOk_by rfl) (by decide) (fun h => nomatch h) (fun _ _ _ _ _ => (.nm sc.nd rfl (by first | exact .inl rfl | exact .inr rfl) (by first | exact .inl rfl | exact .inr rfl))) (fun _ _ _ _ _ => pts_noV) (fun _ _ _ _ _ => (pe_calV c__law_right hr (by decide) rfl takes_noneN rfl (by first | exact .inl rfl | exact .inr ⟨rfl, by decide⟩) (pa_consV (fun _ _ h => nomatch h) (pv' 4) (pa_consV (fun _ _ h => nomatch h) (pv' 2) (pa_consV (fun _ _ h => nomatch h) (pv' 3) pa_nilV)))))) pa_nilV))) pss_nilV)))
end VL
end
section
set_option maxHeartbeats 0
namespace VL
open PySem PySem.Spec PyProof.Rows L2
theorem facts {P : Program} {w : World} {K : PySem.W.Frag} {h : Heap} {mg : Str → Option Value} {fl : Addr} (X : K.In h) (G : h.Ns mainGlobals mg) (hfa : mg ("law" : Str) = some (.ref fl)) (c : He.SaysX hFa hFn hTs [] hEx w h K) :
    ∃ fd : FuncData, (∀ (s : Shared) (v : Value), BindsTo s fd ⟨[v], []⟩ [("_law_script", v)]) ∧ ∀ base : Heap, K.In base → base.Ns mainGlobals mg → FnOk P w K mg base (L2N.CX P w) 5 fl fd ["_law_script"] (spLaw K) := by
  have d := c.t.d
  obtain ⟨fdL, FL⟩ := d.def_ 7 (d := (hFn).getD 7 dd0) rfl
  have e := hfa.symm.trans (He.glo_ok X G (d.fact 36 (f := .glo "law") rfl))
  cases e
  have b := FunD.bindsA (ps := ["_law_script"]) FL (fun _ _ _ _ _ _ us hl => match us, hl with | [_], _ => rfl)
  refine ⟨fdL, fun s v => b s [v] rfl, fun base _ _ => ?_⟩
  have m_ValueError := He.free_ok X G (d.fact 0 (f := .free "ValueError") rfl)
  have m_all := He.free_ok X G (d.fact 1 (f := .free "all") rfl)
  have m_int := He.free_ok X G (d.fact 2 (f := .free "int") rfl)
  have m_isinstance := He.free_ok X G (d.fact 3 (f := .free "isinstance") rfl)
  have m_len := He.free_ok X G (d.fact 4 (f := .free "len") rfl)
  have m_list := He.free_ok X G (d.fact 5 (f := .free "list") rfl)
  have m_max := He.free_ok X G (d.fact 6 (f := .free "max") rfl)
  have m_range := He.free_ok X G (d.fact 7 (f := .free "range") rfl)
  obtain ⟨fd0, F0⟩ := d.def_ 0 (d := (hFn).getD 0 dd0) rfl
  obtain ⟨fd1, F1⟩ := d.def_ 1 (d := (hFn).getD 1 dd0) rfl
  obtain ⟨fd2, F2⟩ := d.def_ 2 (d := (hFn).getD 2 dd0) rfl
  obtain ⟨fd3, F3⟩ := d.def_ 3 (d := (hFn).getD 3 dd0) rfl
  obtain ⟨fd4, F4⟩ := d.def_ 4 (d := (hFn).getD 4 dd0) rfl
  obtain ⟨fd5, F5⟩ := d.def_ 5 (d := (hFn).getD 5 dd0) rfl
  obtain ⟨fd6, F6⟩ := d.def_ 6 (d := (hFn).getD 6 dd0) rfl
  obtain ⟨fd7, F7⟩ := d.def_ 7 (d := (hFn).getD 7 dd0) rfl
  obtain ⟨fd8, F8⟩ := d.def_ 8 (d := (hFn).getD 8 dd0) rfl
  obtain ⟨fd9, F9⟩ := d.def_ 9 (d := (hFn).getD 9 dd0) rfl
  obtain ⟨fd10, F10⟩ := d.def_ 10 (d := (hFn).getD 10 dd0) rfl
  obtain ⟨fd11, F11⟩ := d.def_ 11 (d := (hFn).getD 11 dd0) rfl
  obtain ⟨xa_InvalidValues, xb_InvalidValues, xc_InvalidValues, xd_InvalidValues⟩ := He.exc_ok (d.fact 8 (f := .exc "InvalidValues") rfl)
  have e_InvalidValues : Exc0 K mg (excL K) 1 "InvalidValues" := ⟨⟨_, _, _, _, _, rfl, PySem.F.excBase_ValueError, xa_InvalidValues, (He.glo_ok X G (d.fact 9 (f := .glo "InvalidValues") rfl)), xb_InvalidValues, xc_InvalidValues, xd_InvalidValues⟩⟩
  have T_InvalidWay := oexB_ok (ex_at (b := oexB K (He.ga K "InvalidWay")) c.more 0 rfl)
  have oki_InvalidWay := ok_init1 (P := P) (w := w) (mg := mg) (base := base) T_InvalidWay (of_decide_eq_true (ex_at (b := decide (PySem.W.findIn K (.ref (He.ga K "InvalidWay")) "index" = some none)) c.more 1 rfl)) F8 (⟨rfl, rfl, rfl, by decide +kernel, rfl, by decide +kernel, by decide +kernel⟩ : FnScope ["self", "index"] ["self", "index"] (defScope st_InvalidWay___init__)) rfl (fun cdv A outer s H E => ⟨L2.pv 0, L2.pv 1⟩)
  have e_InvalidWay : ExcN P w K mg base (excL K) 2 1 "InvalidWay" := excN_1 T_InvalidWay (He.meth_ok (d.fact 10 (f := .meth "InvalidWay" "__init__") rfl)).at_ (of_decide_eq_true (ex_at (b := decide (PySem.W.typeIn K (.ref (He.ma K (He.ga K "InvalidWay") "__init__")) = some (.type "function"))) c.more 2 rfl)) rfl (He.glo_ok X G (d.fact 11 (f := .glo "InvalidWay") rfl)) (F8.bindsN (fun _ _ _ _ _ _ us hl => match us, hl with | [_, _], _ => rfl)) oki_InvalidWay
  have T_UnknownWay := oexB_ok (ex_at (b := oexB K (He.ga K "UnknownWay")) c.more 3 rfl)
  have oki_UnknownWay := ok_init1 (P := P) (w := w) (mg := mg) (base := base) T_UnknownWay (of_decide_eq_true (ex_at (b := decide (PySem.W.findIn K (.ref (He.ga K "UnknownWay")) "index" = some none)) c.more 4 rfl)) F9 (⟨rfl, rfl, rfl, by decide +kernel, rfl, by decide +kernel, by decide +kernel⟩ : FnScope ["self", "index"] ["self", "index"] (defScope st_UnknownWay___init__)) rfl (fun cdv A outer s H E => ⟨L2.pv 0, L2.pv 1⟩)
  have e_UnknownWay : ExcN P w K mg base (excL K) 3 1 "UnknownWay" := excN_1 T_UnknownWay (He.meth_ok (d.fact 12 (f := .meth "UnknownWay" "__init__") rfl)).at_ (of_decide_eq_true (ex_at (b := decide (PySem.W.typeIn K (.ref (He.ma K (He.ga K "UnknownWay") "__init__")) = some (.type "function"))) c.more 5 rfl)) rfl (He.glo_ok X G (d.fact 13 (f := .glo "UnknownWay") rfl)) (F9.bindsN (fun _ _ _ _ _ _ us hl => match us, hl with | [_, _], _ => rfl)) oki_UnknownWay
  obtain ⟨xa_InvalidPicture, xb_InvalidPicture, xc_InvalidPicture, xd_InvalidPicture⟩ := He.exc_ok (d.fact 14 (f := .exc "InvalidPicture") rfl)
  have e_InvalidPicture : Exc0 K mg (excL K) 4 "InvalidPicture" := ⟨⟨_, _, _, _, _, rfl, PySem.F.excBase_ValueError, xa_InvalidPicture, (He.glo_ok X G (d.fact 15 (f := .glo "InvalidPicture") rfl)), xb_InvalidPicture, xc_InvalidPicture, xd_InvalidPicture⟩⟩
  have T_NotWritten := oexB_ok (ex_at (b := oexB K (He.ga K "NotWritten")) c.more 6 rfl)
  have oki_NotWritten := ok_init1 (P := P) (w := w) (mg := mg) (base := base) T_NotWritten (of_decide_eq_true (ex_at (b := decide (PySem.W.findIn K (.ref (He.ga K "NotWritten")) "place" = some none)) c.more 7 rfl)) F10 (⟨rfl, rfl, rfl, by decide +kernel, rfl, by decide +kernel, by decide +kernel⟩ : FnScope ["self", "place"] ["self", "place"] (defScope st_NotWritten___init__)) rfl (fun cdv A outer s H E => ⟨L2.pv 0, L2.pv 1⟩)
  have e_NotWritten : ExcN P w K mg base (excL K) 5 1 "NotWritten" := excN_1 T_NotWritten (He.meth_ok (d.fact 16 (f := .meth "NotWritten" "__init__") rfl)).at_ (of_decide_eq_true (ex_at (b := decide (PySem.W.typeIn K (.ref (He.ma K (He.ga K "NotWritten") "__init__")) = some (.type "function"))) c.more 8 rfl)) rfl (He.glo_ok X G (d.fact 17 (f := .glo "NotWritten") rfl)) (F10.bindsN (fun _ _ _ _ _ _ us hl => match us, hl with | [_, _], _ => rfl)) oki_NotWritten
  obtain ⟨xa_InvalidBits, xb_InvalidBits, xc_InvalidBits, xd_InvalidBits⟩ := He.exc_ok (d.fact 18 (f := .exc "InvalidBits") rfl)
  have e_InvalidBits : Exc0 K mg (excL K) 6 "InvalidBits" := ⟨⟨_, _, _, _, _, rfl, PySem.F.excBase_ValueError, xa_InvalidBits, (He.glo_ok X G (d.fact 19 (f := .glo "InvalidBits") rfl)), xb_InvalidBits, xc_InvalidBits, xd_InvalidBits⟩⟩
  obtain ⟨xa_NotComparable, xb_NotComparable, xc_NotComparable, xd_NotComparable⟩ := He.exc_ok (d.fact 20 (f := .exc "NotComparable") rfl)
  have e_NotComparable : Exc0 K mg (excL K) 7 "NotComparable" := ⟨⟨_, _, _, _, _, rfl, PySem.F.excBase_ValueError, xa_NotComparable, (He.glo_ok X G (d.fact 21 (f := .glo "NotComparable") rfl)), xb_NotComparable, xc_NotComparable, xd_NotComparable⟩⟩
  obtain ⟨xa_InvalidNumber, xb_InvalidNumber, xc_InvalidNumber, xd_InvalidNumber⟩ := He.exc_ok (d.fact 22 (f := .exc "InvalidNumber") rfl)
  have e_InvalidNumber : Exc0 K mg (excL K) 8 "InvalidNumber" := ⟨⟨_, _, _, _, _, rfl, PySem.F.excBase_ValueError, xa_InvalidNumber, (He.glo_ok X G (d.fact 23 (f := .glo "InvalidNumber") rfl)), xb_InvalidNumber, xc_InvalidNumber, xd_InvalidNumber⟩⟩
  obtain ⟨xa_InvalidPrice, xb_InvalidPrice, xc_InvalidPrice, xd_InvalidPrice⟩ := He.exc_ok (d.fact 24 (f := .exc "InvalidPrice") rfl)
  have e_InvalidPrice : Exc0 K mg (excL K) 9 "InvalidPrice" := ⟨⟨_, _, _, _, _, rfl, PySem.F.excBase_ValueError, xa_InvalidPrice, (He.glo_ok X G (d.fact 25 (f := .glo "InvalidPrice") rfl)), xb_InvalidPrice, xc_InvalidPrice, xd_InvalidPrice⟩⟩
  have T_InvalidText := oexB_ok (ex_at (b := oexB K (He.ga K "InvalidText")) c.more 9 rfl)
  have oki_InvalidText := ok_init2 (P := P) (w := w) (mg := mg) (base := base) T_InvalidText (of_decide_eq_true (ex_at (b := decide (PySem.W.findIn K (.ref (He.ga K "InvalidText")) "line" = some none)) c.more 10 rfl)) (of_decide_eq_true (ex_at (b := decide (PySem.W.findIn K (.ref (He.ga K "InvalidText")) "word" = some none)) c.more 11 rfl)) F11 (⟨rfl, rfl, rfl, by decide +kernel, rfl, by decide +kernel, by decide +kernel⟩ : FnScope ["self", "line", "word"] ["self", "line", "word"] (defScope st_InvalidText___init__)) rfl (fun cdv A outer s H E => ⟨⟨L2.pv 0, L2.pv 1⟩, L2.pv 0, L2.pv 2⟩)
  have e_InvalidText : ExcN P w K mg base (excL K) 10 2 "InvalidText" := excN_2 T_InvalidText (He.meth_ok (d.fact 26 (f := .meth "InvalidText" "__init__") rfl)).at_ (of_decide_eq_true (ex_at (b := decide (PySem.W.typeIn K (.ref (He.ma K (He.ga K "InvalidText") "__init__")) = some (.type "function"))) c.more 12 rfl)) rfl (He.glo_ok X G (d.fact 27 (f := .glo "InvalidText") rfl)) (F11.bindsN (fun _ _ _ _ _ _ us hl => match us, hl with | [_, _, _], _ => rfl)) rfl oki_InvalidText
  have x_index_2_3 : FldC K (excL K) [2, 3] "index" 0 := fldC_of (ex_at (b := fldCB K (excL K) [2, 3] "index" 0) c.more 13 rfl)
  have x_line_10 : FldC K (excL K) [10] "line" 0 := fldC_of (ex_at (b := fldCB K (excL K) [10] "line" 0) c.more 14 rfl)
  have x_place_5 : FldC K (excL K) [5] "place" 0 := fldC_of (ex_at (b := fldCB K (excL K) [5] "place" 0) c.more 15 rfl)
  have x_word_10 : FldC K (excL K) [10] "word" 1 := fldC_of (ex_at (b := fldCB K (excL K) [10] "word" 1) c.more 16 rfl)
  have i_InvalidBits : IsaM K mg (excL K) "InvalidBits" [6] := isaM_of (He.glo_ok X G (d.fact 19 (f := .glo "InvalidBits") rfl)) (ex_at (b := isaB K (excL K) (.ref (He.ga K "InvalidBits")) [6] 11) c.more 17 rfl)
  have i_InvalidNumber : IsaM K mg (excL K) "InvalidNumber" [8] := isaM_of (He.glo_ok X G (d.fact 23 (f := .glo "InvalidNumber") rfl)) (ex_at (b := isaB K (excL K) (.ref (He.ga K "InvalidNumber")) [8] 11) c.more 18 rfl)
  have i_InvalidPicture : IsaM K mg (excL K) "InvalidPicture" [4] := isaM_of (He.glo_ok X G (d.fact 15 (f := .glo "InvalidPicture") rfl)) (ex_at (b := isaB K (excL K) (.ref (He.ga K "InvalidPicture")) [4] 11) c.more 19 rfl)
  have i_InvalidPrice : IsaM K mg (excL K) "InvalidPrice" [9] := isaM_of (He.glo_ok X G (d.fact 25 (f := .glo "InvalidPrice") rfl)) (ex_at (b := isaB K (excL K) (.ref (He.ga K "InvalidPrice")) [9] 11) c.more 20 rfl)
  have i_InvalidText : IsaM K mg (excL K) "InvalidText" [10] := isaM_of (He.glo_ok X G (d.fact 27 (f := .glo "InvalidText") rfl)) (ex_at (b := isaB K (excL K) (.ref (He.ga K "InvalidText")) [10] 11) c.more 21 rfl)
  have i_InvalidValues : IsaM K mg (excL K) "InvalidValues" [1] := isaM_of (He.glo_ok X G (d.fact 9 (f := .glo "InvalidValues") rfl)) (ex_at (b := isaB K (excL K) (.ref (He.ga K "InvalidValues")) [1] 11) c.more 22 rfl)
  have i_InvalidWay : IsaM K mg (excL K) "InvalidWay" [2] := isaM_of (He.glo_ok X G (d.fact 11 (f := .glo "InvalidWay") rfl)) (ex_at (b := isaB K (excL K) (.ref (He.ga K "InvalidWay")) [2] 11) c.more 23 rfl)
  have i_NotComparable : IsaM K mg (excL K) "NotComparable" [7] := isaM_of (He.glo_ok X G (d.fact 21 (f := .glo "NotComparable") rfl)) (ex_at (b := isaB K (excL K) (.ref (He.ga K "NotComparable")) [7] 11) c.more 24 rfl)
  have i_NotWritten : IsaM K mg (excL K) "NotWritten" [5] := isaM_of (He.glo_ok X G (d.fact 17 (f := .glo "NotWritten") rfl)) (ex_at (b := isaB K (excL K) (.ref (He.ga K "NotWritten")) [5] 11) c.more 25 rfl)
  have i_UnknownWay : IsaM K mg (excL K) "UnknownWay" [3] := isaM_of (He.glo_ok X G (d.fact 13 (f := .glo "UnknownWay") rfl)) (ex_at (b := isaB K (excL K) (.ref (He.ga K "UnknownWay")) [3] 11) c.more 26 rfl)
  have c_CodeError_ : CatC K mg (excL K) "CodeError" [0, 1, 2, 3, 4, 5, 6, 7, 8, 9, 10] := catC_of (He.glo_ok X G (d.fact 28 (f := .glo "CodeError") rfl)) (ex_at (b := catB K (excL K) (He.ga K "CodeError") [0, 1, 2, 3, 4, 5, 6, 7, 8, 9, 10] 11) c.more 27 rfl)
  have j_ValueError : IsaC K (excL K) (.type "ValueError") [0, 1, 2, 3, 4, 5, 6, 7, 8, 9, 10] := isaC_of (ex_at (b := isaB K (excL K) (.type "ValueError") [0, 1, 2, 3, 4, 5, 6, 7, 8, 9, 10] 11) c.more 28 rfl)
  have c__law_next : Cal P w K mg base (clsL K) (excL K) "_law_next" 1 fd__law_next := ⟨⟨_, _, _, ok_next F1 m_int m_max m_len, F1.kp, F1.bindsN (fun _ _ _ _ _ _ us hl => match us, hl with | [_, _], _ => rfl), (He.glo_ok X G (d.fact 29 (f := .glo "_law_next") rfl))⟩⟩
  have c__law_bare : Cal P w K mg base (clsL K) (excL K) "_law_bare" 1 fd__law_bare := ⟨⟨_, _, _, ok__law_bare F2 e_InvalidBits e_InvalidNumber e_InvalidPicture e_InvalidPrice e_InvalidValues e_NotComparable, F2.kp, F2.bindsN (fun _ _ _ _ _ _ us hl => match us, hl with | [_], _ => rfl), (He.glo_ok X G (d.fact 30 (f := .glo "_law_bare") rfl))⟩⟩
  have c__law_thrown : Cal P w K mg base (clsL K) (excL K) "_law_thrown" 3 fd__law_thrown := ⟨⟨_, _, _, ok__law_thrown F3 c__law_bare e_InvalidText e_InvalidWay e_NotWritten e_UnknownWay, F3.kp, F3.bindsN (fun _ _ _ _ _ _ us hl => match us, hl with | [_, _, _], _ => rfl), (He.glo_ok X G (d.fact 31 (f := .glo "_law_thrown") rfl))⟩⟩
  have c__law_parts : CalS P w K mg base (clsL K) (excL K) "_law_parts" 1 fd__law_parts := ⟨⟨_, _, _, ok__law_parts F4 x_index_2_3 x_line_10 x_place_5 x_word_10, F4.kp, F4.bindsN (fun _ _ _ _ _ _ us hl => match us, hl with | [_, _], _ => rfl), (He.glo_ok X G (d.fact 32 (f := .glo "_law_parts") rfl))⟩⟩
  have c__law_classes : CalS P w K mg base (clsL K) (excL K) "_law_classes" 1 fd__law_classes := ⟨⟨_, _, _, ok__law_classes F5 m_isinstance i_InvalidBits i_InvalidNumber i_InvalidPicture i_InvalidPrice i_InvalidText i_InvalidValues i_InvalidWay i_NotComparable i_NotWritten i_UnknownWay, F5.kp, F5.bindsN (fun _ _ _ _ _ _ us hl => match us, hl with | [_], _ => rfl), (He.glo_ok X G (d.fact 33 (f := .glo "_law_classes") rfl))⟩⟩
  have c__law_right : Cal P w K mg base (clsL K) (excL K) "_law_right" 4 fd__law_right := ⟨⟨_, _, _, ok__law_right F6 m_ValueError m_int m_isinstance m_range c__law_thrown c__law_parts c__law_classes c_CodeError_ j_ValueError, F6.kp, F6.bindsN (fun _ _ _ _ _ _ us hl => match us, hl with | [_, _, _], _ => rfl), (He.glo_ok X G (d.fact 34 (f := .glo "_law_right") rfl))⟩⟩
  exact ok_law FL m_all m_range c__law_right c__law_next F0 (He.glo_ok X G (d.fact 35 (f := .glo "_law_mix") rfl)) m_int m_list plain
end VL
theorem PySem.Challenge.cw_picturecodes_k19_errors_apart_holds : PySem.Challenge.rw_picturecodes_k19_errors_apart.Holds :=
  VL.fin fun X G hfa c => VL.facts X G hfa c
end
