import PyProof.Rows.All
import Wide.All
import OpenK.AllK
import Wide.FinOn
import HandS.ForMost
import HandS.ForExc
import HandS.Walk
import HandS.Zip
import HandS.Wide
import HandS.IsInst
import HandS.Flow
import HandS.Exc
import HandS.ExcField
import HandS.TryOnly
import HandS.WordsExc
import HandS.ExcInit
import HandS.Defaults
import KE.KExcSuper
import HandS.Words
import HandS.Head0
import HandS.Head1
import HandS.Head2
import HandS.HeadEnd
import HandS.HeadHook1
import HandS.HeadHook2
import KE.KExcPX
import PySem.Challenge.RW_leastcomplaint_k77_dividends
import KE.DataEq
import HandS.CallSlots
import HandS.HotCalls
import HandS.TupLen
import HandS.Dict
import HandS.Iter
import HandS.TupSets
import HandS.SortInts
import HandS.Conv
import HandS.TupAny
import KE.KDictWalk
import KE.KDictKeyed
import KE.KDictPairs
import KE.KDictCopyH
import HandS.DictComp
import KE.KDictOf
import OpenK.KMeth
import KE.KOpsOwn
import KE.KIsAll
import HandS.TupLe
import HandS.SortRule
import KE.KSortTup
import HandS.Star
import HandS.TryMany
import KE.GoesMore
import HandS.IterVal
import KE.KOwnIter
import HandS.OwnIter
import HandS.Style
import HandS.Finally
import PyProof.DictMoreH
import PyProof.DictRoadsH
import PyProof.MeetsDictList
import KE.SortData
import KE.KUnpackStar
import KE.KItemsList
import KE.KDictZip
import KE.KeyNested
import PyProof.DictFindH
set_option Elab.async false
set_option linter.all false
set_option maxRecDepth 100000
set_option maxHeartbeats 4000000
namespace DL
open PySem PySem.Spec PyProof.Rows L2

/-! ### the head by one kernel run: all that the end leans on is read off the heap behind the top, as Bools and the defs' own texts -/
/-- a def in the body of a class -/
def inClassR (st : Stmt) (j : Nat) : Stmt := match st with
  | .ClassDef _ _ _ body _ _ _ _ _ _ _ => body.getD j (.Pass ⟨0, 0, 0, 0⟩)
  | _ => .Pass ⟨0, 0, 0, 0⟩
def clsB (K : PySem.W.Frag) (C : Addr) : Bool := match K.lookup C with
  | some ⟨.type t, _, .cls ⟨_, _, .ref a :: bm, _, _, hd, _, _, _, _, hdel⟩, sl⟩ => decide (t = "type") && (decide (a = C) && (PySem.HandSPX.refsVE bm && (hd && (!hdel && (match sl.toList with
      | [_, _, _, _, some (.builtin b), _] => decide (b = "ValueError.__new__")
      | _ => false)))))
  | _ => false
structure XcD where
  cls : Str
  qual : Str
  st : Stmt
abbrev XW : Type := Option (Str × Str × Arguments × FuncBody × Scope × Addr × List Str × Value × Addr)
def xW (K : PySem.W.Frag) (x : Str) : XW := match K.lookup (He.ma K (He.ga K x) "__init__") with
  | some ⟨_, _, .func fd, _⟩ => some (fd.name, fd.qualname, fd.params, fd.body, fd.scope, fd.globals, fd.closure.map (·.1), fd.defaults, fd.builtins)
  | _ => none
def XcD.val (d : XcD) : XW := some (("__init__" : Str), d.qual, defArgs d.st, FuncBody.stmts (defBody d.st), defScope d.st, mainGlobals, [("__class__" : Str)], Value.none, builtinsNs)
def codB (K : PySem.W.Frag) (file : Str) (C : Addr) (q : Str) (fd : FuncData) : Bool := PySem.W.codeIn K fd.code q && ((match fd.code with
  | .ref cda => (match K.lookup cda with
    | some ⟨_, _, .fields vs, _⟩ => (match (vs[2]? : Option Value) with
      | some (Value.str f _) => file == f
      | _ => false)
    | _ => false)
  | _ => false) && (match fd.closure with
  | [(_, cc)] => (match K.lookup cc with
    | some ⟨_, _, .cell (some (.ref c)), _⟩ => decide (c = C)
    | _ => false)
  | _ => false))
def xcB (K : PySem.W.Frag) (file : Str) (d : XcD) : Bool := clsB K (He.ga K d.cls) && (He.eqO (PySem.W.findIn K (.ref (He.ga K d.cls)) "__setattr__") (some (some (.builtin "object.__setattr__"))) &&
  (decide (PySem.W.subIn K (.ref (He.ga K d.cls)) (.type "BaseException") = some true) && (decide (PySem.W.typeIn K (.ref (He.ga K d.cls)) = some (.type "type")) && (PySem.W.keepIn K (.ref (He.ga K d.cls)) &&
  (He.eqO (PySem.W.findIn K (.ref (He.ga K d.cls)) "__init__") (some (some (.ref (He.ma K (He.ga K d.cls) "__init__")))) && (decide (PySem.W.typeIn K (.ref (He.ma K (He.ga K d.cls) "__init__")) = some (.type "function")) &&
  (He.eqO (PySem.W.ks_superIn K (He.ga K d.cls) (He.ga K d.cls) "__init__") (some (some (.builtin "ValueError.__init__"))) && (decide (PySem.W.mroIn K (He.ga K d.cls) (.ref (He.ga K d.cls)) = some true) &&
  (decide (PySem.W.subIn K (.ref (He.ga K d.cls)) (.type "ValueError") = some true) && (PySem.W.excInitIn K (He.ga K d.cls) [.type "ValueError", .type "Exception", .type "BaseException", .type "object"] "ValueError.__new__" &&
  (match K.lookup (He.ma K (He.ga K d.cls) "__init__") with
  | some ⟨_, _, .func fd, _⟩ => codB K file (He.ga K d.cls) d.qual fd
  | _ => false)))))))))))
def glB (K : PySem.W.Frag) (x : Str) (v : V) : Bool := match PySem.W.nsIn K mainGlobals x with
  | some (some u) => He.relB v u
  | _ => false
abbrev AlK : Type := Bool × (List He.FnW × List XW)
def obsK (file : Str) (fs : List (PySem.W.Frag → Bool)) (fn : List He.DefD) (xs : List XcD) (K : PySem.W.Frag) : AlK := ((fs.all fun f => f K) && ((fn.all fun d => d.ok K) && xs.all fun d => xcB K file d), fn.map (fun d => He.fnW K d.at_), xs.map fun d => xW K d.cls)
def valK (fn : List He.DefD) (xs : List XcD) : AlK := (true, fn.map He.DefD.val, xs.map XcD.val)
def SaysK (file : Str) (fs : List (PySem.W.Frag → Bool)) (fn : List He.DefD) (xs : List XcD) (K : PySem.W.Frag) : Prop := obsK file fs fn xs K = valK fn xs
def hookK (as : List Addr) (file : Str) (fs : List (PySem.W.Frag → Bool)) (fn : List He.DefD) (xs : List XcD) : PySem.W.Hook where
  α := AlK
  obs := fun s => obsK file fs fn xs (He.frG s.heap.get? as)
  val := fun _ => valK fn xs
  says := fun _ h => ∃ K : PySem.W.Frag, K.In h ∧ SaysK file fs fn xs K
  of := fun _ _ e => ⟨_, He.frG_in, e⟩
  keeps := fun _ _ _ ⟨K, hK, c⟩ k => ⟨K, PySem.W.Frag.In.keeps hK k, c⟩
theorem obsK_eq {as : List Addr} {file : Str} {fs : List (PySem.W.Frag → Bool)} {fn : List He.DefD} {xs : List XcD} {g : Addr → Option Obj} {s : Shared} (h : ∀ a, g a = s.heap.get? a) : obsK file fs fn xs (He.frG g as) = (hookK as file fs fn xs).obs s := by
  have e : g = s.heap.get? := funext h
  rw [e] <;> rfl
theorem run_of {r : PySem.W.OpenRow} {q : Program} {as : List Addr} {file : Str} {fs : List (PySem.W.Frag → Bool)} {fn : List He.DefD} {xs : List XcD} {M : Nat} {loose : List PySem.Str} {w : World}
    (h1 : ∀ os, (HandSHeadRun.endF (HandSHeadRun.stepQ (HandSHeadRun.denQ HandSHeadRun.tabQ) r.prog w) M r.prog w os).map (fun s => (HandSHeadRun.looksF r.prog (PySem.W.boot_heap w.params) s.abs, HandSHeadRun.seenQ q loose (importedModules r.prog.main.body) (fun s => PySem.W.xlAt q [] s && PySem.W.recOk r.toRowW.records s) s.abs)) = some (true, PySem.W.openGood q loose))
    (h2 : ∀ os, (HandSHeadRun.endF (HandSHeadRun.stepQ (HandSHeadRun.denQ HandSHeadRun.tabQ) r.prog w) M r.prog w os).map (fun s => fs.all fun f => f (He.frG (HandSHeadRun.getT s) as)) = some true)
    (h3 : ∀ os, (HandSHeadRun.endF (HandSHeadRun.stepQ (HandSHeadRun.denQ HandSHeadRun.tabQ) r.prog w) M r.prog w os).map (fun s => fn.all fun d => d.ok (He.frG (HandSHeadRun.getT s) as)) = some true)
    (h4 : ∀ os, (HandSHeadRun.endF (HandSHeadRun.stepQ (HandSHeadRun.denQ HandSHeadRun.tabQ) r.prog w) M r.prog w os).map (fun s => fn.map fun d => He.fnW (He.frG (HandSHeadRun.getT s) as) d.at_) = some (fn.map He.DefD.val))
    (h5 : ∀ os, (HandSHeadRun.endF (HandSHeadRun.stepQ (HandSHeadRun.denQ HandSHeadRun.tabQ) r.prog w) M r.prog w os).map (fun s => (xs.all fun d => xcB (He.frG (HandSHeadRun.getT s) as) file d, xs.map fun d => xW (He.frG (HandSHeadRun.getT s) as) d.cls)) = some (true, xs.map XcD.val)) :
    HandSHeadRun.RunEq r q (hookK as file fs fn xs) (fun s => obsK file fs fn xs (He.frG (HandSHeadRun.getT s) as)) M loose w := by
  intro os
  replace h1 := h1 os
  replace h2 := h2 os
  replace h3 := h3 os
  replace h4 := h4 os
  replace h5 := h5 os
  cases e : HandSHeadRun.endF (HandSHeadRun.stepQ (HandSHeadRun.denQ HandSHeadRun.tabQ) r.prog w) M r.prog w os with
  | none =>
    rw [e] at h1
    cases h1
  | some s =>
    rw [e] at h1 h2 h3 h4 h5
    have a1 := Prod.mk.inj (Option.some.inj h1)
    have a2 := Option.some.inj h2
    have a3 := Option.some.inj h3
    have a4 := Option.some.inj h4
    have a5 := Prod.mk.inj (Option.some.inj h5)
    dsimp only at a2 a3 a4
    have o : obsK file fs fn xs (He.frG (HandSHeadRun.getT s) as) = valK fn xs := by
      unfold obsK valK
      rw [a2, a3, a4, a5.1, a5.2]
      rfl
    show some (_, _, obsK file fs fn xs (He.frG (HandSHeadRun.getT s) as)) = _
    rw [o, a1.1, a1.2]
    rfl
end DL


namespace K77
open PySem PySem.Spec PyProof.Rows L2 DL
def rTop (i : Nat) : Stmt := PySem.Challenge.pw_leastcomplaint_k77_dividends.main.body.getD i (.Pass ⟨0, 0, 0, 0⟩)
abbrev r_Game___iter__ : Stmt := DL.inClassR (rTop 16) 3
abbrev r_is_integer : Stmt := rTop 7
abbrev r_check_players : Stmt := rTop 11
abbrev r_groups_of : Stmt := rTop 12
abbrev r_groups : Stmt := rTop 13
abbrev r_are_integers : Stmt := rTop 8
abbrev r_is_group : Stmt := rTop 14
abbrev r_has_worths : Stmt := rTop 15
abbrev r_Game___init__ : Stmt := DL.inClassR (rTop 16) 0
abbrev r_law_pool : Stmt := rTop 22
abbrev r_law_take : Stmt := rTop 23
abbrev r_law_few : Stmt := rTop 26
abbrev r_law_groups : Stmt := rTop 25
abbrev r_law_any_worths : Stmt := rTop 27
abbrev r_law_sum : Stmt := rTop 29
abbrev r_law_worths : Stmt := rTop 28
abbrev r_Game___getitem__ : Stmt := DL.inClassR (rTop 16) 2
abbrev r_lies_in : Stmt := rTop 18
abbrev r_dividends : Stmt := rTop 19
abbrev r_Game_worths : Stmt := DL.inClassR (rTop 16) 6
abbrev r_Game___eq__ : Stmt := DL.inClassR (rTop 16) 5
abbrev r_from_dividends : Stmt := rTop 20
abbrev r_law_told : Stmt := rTop 32
abbrev r_law_inside : Stmt := rTop 30
abbrev r_law_sums : Stmt := rTop 31
abbrev r_law_wrong : Stmt := rTop 33
abbrev r_law_is_number : Stmt := rTop 24
abbrev r_law : Stmt := rTop 34
abbrev r_BadPlayers__init__ : Stmt := DL.inClassR (rTop 2) 0
abbrev r_BadWorths__init__ : Stmt := DL.inClassR (rTop 3) 0
abbrev r_NoGroup__init__ : Stmt := DL.inClassR (rTop 4) 0
def hdD0 : He.DefD := ⟨("Game", some "__iter__"), "__iter__", "Game.__iter__", defArgs r_Game___iter__, defBody r_Game___iter__, defScope r_Game___iter__, [], []⟩
def hdD1 : He.DefD := ⟨("is_integer", none), "is_integer", "is_integer", defArgs r_is_integer, defBody r_is_integer, defScope r_is_integer, [], []⟩
def hdD2 : He.DefD := ⟨("check_players", none), "check_players", "check_players", defArgs r_check_players, defBody r_check_players, defScope r_check_players, [], []⟩
def hdD3 : He.DefD := ⟨("groups_of", none), "groups_of", "groups_of", defArgs r_groups_of, defBody r_groups_of, defScope r_groups_of, [], []⟩
def hdD4 : He.DefD := ⟨("groups", none), "groups", "groups", defArgs r_groups, defBody r_groups, defScope r_groups, [], []⟩
def hdD5 : He.DefD := ⟨("are_integers", none), "are_integers", "are_integers", defArgs r_are_integers, defBody r_are_integers, defScope r_are_integers, [], []⟩
def hdD6 : He.DefD := ⟨("is_group", none), "is_group", "is_group", defArgs r_is_group, defBody r_is_group, defScope r_is_group, [], []⟩
def hdD7 : He.DefD := ⟨("has_worths", none), "has_worths", "has_worths", defArgs r_has_worths, defBody r_has_worths, defScope r_has_worths, [], []⟩
def hdD8 : He.DefD := ⟨("Game", some "__init__"), "__init__", "Game.__init__", defArgs r_Game___init__, defBody r_Game___init__, defScope r_Game___init__, [], []⟩
def hdD9 : He.DefD := ⟨("_law_pool", none), "_law_pool", "_law_pool", defArgs r_law_pool, defBody r_law_pool, defScope r_law_pool, [], []⟩
def hdD10 : He.DefD := ⟨("_law_take", none), "_law_take", "_law_take", defArgs r_law_take, defBody r_law_take, defScope r_law_take, [], []⟩
def hdD11 : He.DefD := ⟨("_law_few", none), "_law_few", "_law_few", defArgs r_law_few, defBody r_law_few, defScope r_law_few, [], []⟩
def hdD12 : He.DefD := ⟨("_law_groups", none), "_law_groups", "_law_groups", defArgs r_law_groups, defBody r_law_groups, defScope r_law_groups, [], []⟩
def hdD13 : He.DefD := ⟨("_law_any_worths", none), "_law_any_worths", "_law_any_worths", defArgs r_law_any_worths, defBody r_law_any_worths, defScope r_law_any_worths, [], []⟩
def hdD14 : He.DefD := ⟨("_law_sum", none), "_law_sum", "_law_sum", defArgs r_law_sum, defBody r_law_sum, defScope r_law_sum, [], []⟩
def hdD15 : He.DefD := ⟨("_law_worths", none), "_law_worths", "_law_worths", defArgs r_law_worths, defBody r_law_worths, defScope r_law_worths, [], []⟩
def hdD16 : He.DefD := ⟨("Game", some "__getitem__"), "__getitem__", "Game.__getitem__", defArgs r_Game___getitem__, defBody r_Game___getitem__, defScope r_Game___getitem__, [], []⟩
def hdD17 : He.DefD := ⟨("lies_in", none), "lies_in", "lies_in", defArgs r_lies_in, defBody r_lies_in, defScope r_lies_in, [], []⟩
def hdD18 : He.DefD := ⟨("dividends", none), "dividends", "dividends", defArgs r_dividends, defBody r_dividends, defScope r_dividends, [], []⟩
def hdD19 : He.DefD := ⟨("Game", some "worths"), "worths", "Game.worths", defArgs r_Game_worths, defBody r_Game_worths, defScope r_Game_worths, [], []⟩
def hdD20 : He.DefD := ⟨("Game", some "__eq__"), "__eq__", "Game.__eq__", defArgs r_Game___eq__, defBody r_Game___eq__, defScope r_Game___eq__, [], []⟩
def hdD21 : He.DefD := ⟨("from_dividends", none), "from_dividends", "from_dividends", defArgs r_from_dividends, defBody r_from_dividends, defScope r_from_dividends, [], []⟩
def hdD22 : He.DefD := ⟨("_law_told", none), "_law_told", "_law_told", defArgs r_law_told, defBody r_law_told, defScope r_law_told, [], []⟩
def hdD23 : He.DefD := ⟨("_law_inside", none), "_law_inside", "_law_inside", defArgs r_law_inside, defBody r_law_inside, defScope r_law_inside, [], []⟩
def hdD24 : He.DefD := ⟨("_law_sums", none), "_law_sums", "_law_sums", defArgs r_law_sums, defBody r_law_sums, defScope r_law_sums, [], []⟩
def hdD25 : He.DefD := ⟨("_law_wrong", none), "_law_wrong", "_law_wrong", defArgs r_law_wrong, defBody r_law_wrong, defScope r_law_wrong, [], []⟩
def hdD26 : He.DefD := ⟨("_law_is_number", none), "_law_is_number", "_law_is_number", defArgs r_law_is_number, defBody r_law_is_number, defScope r_law_is_number, [], []⟩
def hdD27 : He.DefD := ⟨("law", none), "law", "law", defArgs r_law, defBody r_law, defScope r_law, [], []⟩
def hdC0 : XcD := ⟨"BadPlayers", "BadPlayers.__init__", r_BadPlayers__init__⟩
def hdC1 : XcD := ⟨"BadWorths", "BadWorths.__init__", r_BadWorths__init__⟩
def hdC2 : XcD := ⟨"NoGroup", "NoGroup.__init__", r_NoGroup__init__⟩
def hdF0_ : List (He.DefD) := [hdD0, hdD1, hdD2, hdD3, hdD4, hdD5, hdD6, hdD7, hdD8, hdD9, hdD10, hdD11, hdD12, hdD13, hdD14, hdD15, hdD16, hdD17, hdD18, hdD19, hdD20, hdD21, hdD22, hdD23, hdD24, hdD25, hdD26, hdD27]
def hdF : List (He.DefD) := hdF0_
def hdX0_ : List (XcD) := [hdC0, hdC1, hdC2]
def hdX : List (XcD) := hdX0_
def hdB0_ : List (PySem.W.Frag → Bool) := [fun K => He.eqO (PySem.W.nsIn K mainGlobals "Game") (some (some (.ref (He.ga K "Game")))), fun K => PySem.W.plainGet K (He.ga K "Game") Str.empty, fun K => PySem.W.hasDictIn K (He.ga K "Game"), fun K => PySem.W.plainOver K (He.ga K "Game"), fun K => He.eqO (PySem.W.findIn K (.ref (He.ga K "Game")) "__setattr__") (some (some (.builtin "object.__setattr__"))), fun K => PySem.W.makesIn K (He.ga K "Game"), fun K => PySem.W.keepIn K (.ref (He.ga K "Game")), fun K => He.eqO (PySem.W.findIn K (.ref (He.ga K "Game")) "listed") (some none), fun K => He.eqO (PySem.W.findIn K (.ref (He.ga K "Game")) "players") (some none), fun K => He.eqO (PySem.W.findIn K (.ref (He.ga K "Game")) "whole") (some none), fun K => He.eqO (PySem.W.findIn K (.ref (He.ga K "Game")) "worth_of") (some none), fun K => He.eqO (PySem.W.findIn K (.ref (He.ga K "Game")) "__class__") (some (some (.builtin "object.__class__"))), fun K => He.eqO (PySem.W.specialIn K (.builtin "object.__class__") "__get__") (some (some (.builtin "getset_descriptor.__get__"))), fun K => decide (PySem.W.takesIn K (.builtin "object.__class__") = some true), fun K => decide (PySem.W.mroIn K (He.ga K "Game") (.type "object") = some true), fun K => decide (PySem.W.kitOne K (.ref (He.ga K "Game")) (.ref (He.ga K "Game")) = some true), fun K => decide (PySem.W.kitOne K (.ref (He.ga K "Game")) (.type "int") = some false), fun K => decide (PySem.W.kitOne K (.ref (He.ga K "Game")) (.type "bool") = some false), fun K => decide (PySem.W.kitOne K (.ref (He.ga K "Game")) (.type "list") = some false), fun K => decide (PySem.W.kitOne K (.ref (He.ga K "Game")) (.type "tuple") = some false), fun K => decide (PySem.W.kitOne K (.ref (He.ga K "Game")) (.type "dict") = some false), fun K => decide (PySem.W.kitOne K (.ref (He.ga K "Game")) (.type "str") = some false), fun K => decide (PySem.W.kitOne K (.type "NoneType") (.ref (He.ga K "Game")) = some false), fun K => decide (PySem.W.kitOne K (.type "bool") (.ref (He.ga K "Game")) = some false), fun K => decide (PySem.W.kitOne K (.type "int") (.ref (He.ga K "Game")) = some false), fun K => decide (PySem.W.kitOne K (.type "str") (.ref (He.ga K "Game")) = some false), fun K => decide (PySem.W.kitOne K (.type "list") (.ref (He.ga K "Game")) = some false), fun K => decide (PySem.W.kitOne K (.type "tuple") (.ref (He.ga K "Game")) = some false), fun K => decide (PySem.W.kitOne K (.type "dict") (.ref (He.ga K "Game")) = some false), fun K => He.eqO (PySem.W.findIn K (.ref (He.ga K "Game")) "__iter__") (some (some (.ref (He.ma K (He.ga K "Game") "__iter__"))))]
def hdB1_ : List (PySem.W.Frag → Bool) := [fun K => PySem.W.isFn K (.ref (He.ma K (He.ga K "Game") "__iter__")), fun K => PySem.W.fnIn K (He.ma K (He.ga K "Game") "__iter__"), fun K => PySem.W.keepIn K (.ref (He.ma K (He.ga K "Game") "__iter__")), fun K => He.eqO (PySem.W.nsIn K mainGlobals "is_integer") (some (some (.ref (He.ga K "is_integer")))), fun K => PySem.W.keepIn K (.ref (He.ga K "is_integer")), fun K => He.eqO (PySem.W.nsIn K mainGlobals "check_players") (some (some (.ref (He.ga K "check_players")))), fun K => PySem.W.keepIn K (.ref (He.ga K "check_players")), fun K => He.eqO (PySem.W.nsIn K mainGlobals "groups_of") (some (some (.ref (He.ga K "groups_of")))), fun K => PySem.W.keepIn K (.ref (He.ga K "groups_of")), fun K => He.eqO (PySem.W.nsIn K mainGlobals "groups") (some (some (.ref (He.ga K "groups")))), fun K => PySem.W.keepIn K (.ref (He.ga K "groups")), fun K => He.eqO (PySem.W.nsIn K mainGlobals "are_integers") (some (some (.ref (He.ga K "are_integers")))), fun K => PySem.W.keepIn K (.ref (He.ga K "are_integers")), fun K => He.eqO (PySem.W.nsIn K mainGlobals "is_group") (some (some (.ref (He.ga K "is_group")))), fun K => PySem.W.keepIn K (.ref (He.ga K "is_group")), fun K => He.eqO (PySem.W.nsIn K mainGlobals "has_worths") (some (some (.ref (He.ga K "has_worths")))), fun K => PySem.W.keepIn K (.ref (He.ga K "has_worths")), fun K => He.eqO (PySem.W.findIn K (.ref (He.ga K "Game")) "__init__") (some (some (.ref (He.ma K (He.ga K "Game") "__init__")))), fun K => PySem.W.isFn K (.ref (He.ma K (He.ga K "Game") "__init__")), fun K => PySem.W.fnIn K (He.ma K (He.ga K "Game") "__init__"), fun K => PySem.W.keepIn K (.ref (He.ma K (He.ga K "Game") "__init__")), fun K => He.eqO (PySem.W.nsIn K mainGlobals "_law_pool") (some (some (.ref (He.ga K "_law_pool")))), fun K => PySem.W.keepIn K (.ref (He.ga K "_law_pool")), fun K => He.eqO (PySem.W.nsIn K mainGlobals "_law_take") (some (some (.ref (He.ga K "_law_take")))), fun K => PySem.W.keepIn K (.ref (He.ga K "_law_take")), fun K => He.eqO (PySem.W.nsIn K mainGlobals "_law_few") (some (some (.ref (He.ga K "_law_few")))), fun K => PySem.W.keepIn K (.ref (He.ga K "_law_few")), fun K => He.eqO (PySem.W.nsIn K mainGlobals "_law_groups") (some (some (.ref (He.ga K "_law_groups")))), fun K => PySem.W.keepIn K (.ref (He.ga K "_law_groups")), fun K => He.eqO (PySem.W.nsIn K mainGlobals "_law_any_worths") (some (some (.ref (He.ga K "_law_any_worths"))))]
def hdB2_ : List (PySem.W.Frag → Bool) := [fun K => PySem.W.keepIn K (.ref (He.ga K "_law_any_worths")), fun K => He.eqO (PySem.W.nsIn K mainGlobals "_law_sum") (some (some (.ref (He.ga K "_law_sum")))), fun K => PySem.W.keepIn K (.ref (He.ga K "_law_sum")), fun K => He.eqO (PySem.W.nsIn K mainGlobals "_law_worths") (some (some (.ref (He.ga K "_law_worths")))), fun K => PySem.W.keepIn K (.ref (He.ga K "_law_worths")), fun K => He.eqO (PySem.W.findIn K (.ref (He.ga K "Game")) "__getitem__") (some (some (.ref (He.ma K (He.ga K "Game") "__getitem__")))), fun K => PySem.W.isFn K (.ref (He.ma K (He.ga K "Game") "__getitem__")), fun K => PySem.W.fnIn K (He.ma K (He.ga K "Game") "__getitem__"), fun K => PySem.W.keepIn K (.ref (He.ma K (He.ga K "Game") "__getitem__")), fun K => He.eqO (PySem.W.nsIn K mainGlobals "lies_in") (some (some (.ref (He.ga K "lies_in")))), fun K => PySem.W.keepIn K (.ref (He.ga K "lies_in")), fun K => He.eqO (PySem.W.nsIn K mainGlobals "dividends") (some (some (.ref (He.ga K "dividends")))), fun K => PySem.W.keepIn K (.ref (He.ga K "dividends")), fun K => He.eqO (PySem.W.findIn K (.ref (He.ga K "Game")) "worths") (some (some (.ref (He.ma K (He.ga K "Game") "worths")))), fun K => PySem.W.isFn K (.ref (He.ma K (He.ga K "Game") "worths")), fun K => PySem.W.fnIn K (He.ma K (He.ga K "Game") "worths"), fun K => PySem.W.keepIn K (.ref (He.ma K (He.ga K "Game") "worths")), fun K => He.eqO (PySem.W.findIn K (.ref (He.ga K "Game")) "__eq__") (some (some (.ref (He.ma K (He.ga K "Game") "__eq__")))), fun K => PySem.W.isFn K (.ref (He.ma K (He.ga K "Game") "__eq__")), fun K => PySem.W.fnIn K (He.ma K (He.ga K "Game") "__eq__"), fun K => PySem.W.keepIn K (.ref (He.ma K (He.ga K "Game") "__eq__")), fun K => He.eqO (PySem.W.nsIn K mainGlobals "from_dividends") (some (some (.ref (He.ga K "from_dividends")))), fun K => PySem.W.keepIn K (.ref (He.ga K "from_dividends")), fun K => He.eqO (PySem.W.nsIn K mainGlobals "_law_told") (some (some (.ref (He.ga K "_law_told")))), fun K => PySem.W.keepIn K (.ref (He.ga K "_law_told")), fun K => He.eqO (PySem.W.nsIn K mainGlobals "_law_inside") (some (some (.ref (He.ga K "_law_inside")))), fun K => PySem.W.keepIn K (.ref (He.ga K "_law_inside")), fun K => He.eqO (PySem.W.nsIn K mainGlobals "_law_sums") (some (some (.ref (He.ga K "_law_sums")))), fun K => PySem.W.keepIn K (.ref (He.ga K "_law_sums")), fun K => He.eqO (PySem.W.nsIn K mainGlobals "_law_wrong") (some (some (.ref (He.ga K "_law_wrong"))))]
def hdB3_ : List (PySem.W.Frag → Bool) := [fun K => PySem.W.keepIn K (.ref (He.ga K "_law_wrong")), fun K => He.eqO (PySem.W.nsIn K mainGlobals "_law_is_number") (some (some (.ref (He.ga K "_law_is_number")))), fun K => PySem.W.keepIn K (.ref (He.ga K "_law_is_number")), fun K => He.eqO (PySem.W.nsIn K mainGlobals "law") (some (some (.ref (He.ga K "law")))), fun K => PySem.W.keepIn K (.ref (He.ga K "law")), fun K => He.eqO (PySem.W.nsIn K mainGlobals "all") (some none), fun K => He.eqO (PySem.W.nsIn K mainGlobals "bool") (some none), fun K => He.eqO (PySem.W.nsIn K mainGlobals "dict") (some none), fun K => He.eqO (PySem.W.nsIn K mainGlobals "int") (some none), fun K => He.eqO (PySem.W.nsIn K mainGlobals "isinstance") (some none), fun K => He.eqO (PySem.W.nsIn K mainGlobals "iter") (some none), fun K => He.eqO (PySem.W.nsIn K mainGlobals "len") (some none), fun K => He.eqO (PySem.W.nsIn K mainGlobals "list") (some none), fun K => He.eqO (PySem.W.nsIn K mainGlobals "max") (some none), fun K => He.eqO (PySem.W.nsIn K mainGlobals "min") (some none), fun K => He.eqO (PySem.W.nsIn K mainGlobals "range") (some none), fun K => He.eqO (PySem.W.nsIn K mainGlobals "sorted") (some none), fun K => He.eqO (PySem.W.nsIn K mainGlobals "sum") (some none), fun K => He.eqO (PySem.W.nsIn K mainGlobals "tuple") (some none), fun K => He.eqO (PySem.W.nsIn K mainGlobals "zip") (some none), fun K => He.eqO (PySem.W.nsIn K mainGlobals "BadPlayers") (some (some (.ref (He.ga K "BadPlayers")))), fun K => He.eqO (PySem.W.nsIn K mainGlobals "BadWorths") (some (some (.ref (He.ga K "BadWorths")))), fun K => He.eqO (PySem.W.nsIn K mainGlobals "DivisionError") (some (some (.ref (He.ga K "DivisionError")))), fun K => He.eqO (PySem.W.nsIn K mainGlobals "Mismatch") (some (some (.ref (He.ga K "Mismatch")))), fun K => He.eqO (PySem.W.nsIn K mainGlobals "NoGroup") (some (some (.ref (He.ga K "NoGroup")))), fun K => He.eqO (PySem.W.nsIn K mainGlobals "super") (some none), fun K => He.eqO (PySem.W.nsIn K cStatics "thirdparty.any") (some none), fun K => He.eqO (PySem.W.findIn K (.ref (He.ga K "NoGroup")) "group") (some none), fun K => decide (PySem.W.exmOne K (.ref (He.ga K "BadPlayers")) (.ref (He.ga K "BadPlayers")) = some true), fun K => decide (PySem.W.exmOne K (.ref (He.ga K "BadWorths")) (.ref (He.ga K "BadPlayers")) = some false)]
def hdB4_ : List (PySem.W.Frag → Bool) := [fun K => decide (PySem.W.exmOne K (.ref (He.ga K "DivisionError")) (.ref (He.ga K "BadPlayers")) = some false), fun K => decide (PySem.W.exmOne K (.ref (He.ga K "Mismatch")) (.ref (He.ga K "BadPlayers")) = some false), fun K => decide (PySem.W.exmOne K (.ref (He.ga K "NoGroup")) (.ref (He.ga K "BadPlayers")) = some false), fun K => decide (PySem.W.exmOne K (.ref (He.ga K "BadPlayers")) (.ref (He.ga K "BadWorths")) = some false), fun K => decide (PySem.W.exmOne K (.ref (He.ga K "BadWorths")) (.ref (He.ga K "BadWorths")) = some true), fun K => decide (PySem.W.exmOne K (.ref (He.ga K "DivisionError")) (.ref (He.ga K "BadWorths")) = some false), fun K => decide (PySem.W.exmOne K (.ref (He.ga K "Mismatch")) (.ref (He.ga K "BadWorths")) = some false), fun K => decide (PySem.W.exmOne K (.ref (He.ga K "NoGroup")) (.ref (He.ga K "BadWorths")) = some false), fun K => glB K "MOST_PLAYERS" (.int 5)]
def hdB : List (PySem.W.Frag → Bool) := hdB0_ ++ hdB1_ ++ hdB2_ ++ hdB3_ ++ hdB4_
def hdN0_ : List (PySem.Str) := ["DivisionError", "BadPlayers", "BadWorths", "NoGroup", "Mismatch", "is_integer", "are_integers", "MOST_PLAYERS", "check_players", "groups_of", "groups", "is_group", "has_worths", "Game", "lies_in", "dividends", "from_dividends", "_law_pool", "_law_take", "_law_is_number", "_law_groups", "_law_few", "_law_any_worths", "_law_worths", "_law_sum", "_law_inside", "_law_sums", "_law_told", "_law_wrong"]
def hdN : List (PySem.Str) := hdN0_
abbrev hdR : PySem.W.OpenRow := PySem.W.OpenLaw.row PySem.Challenge.rw_leastcomplaint_k77_dividends
abbrev hdQ : Program := PySem.W.view hdR.prog [34]
def hdA : List Addr := mainGlobals :: List.range 620
abbrev hdK : PySem.W.Hook := hookK hdA PySem.Challenge.pw_leastcomplaint_k77_dividends.main.file hdB hdF hdX
def hdO (s : PySem.W.SharedT) : AlK := obsK PySem.Challenge.pw_leastcomplaint_k77_dividends.main.file hdB hdF hdX (He.frG (HandSHeadRun.getT s) hdA)
theorem hdO_eq (s : PySem.W.SharedT) : hdO s = hdK.obs s.abs := obsK_eq (HandSHeadRun.getT_eq s)
set_option maxHeartbeats 0 in
theorem hd_1 (w : World) (os : OsState) : (HandSHeadRun.endF (HandSHeadRun.stepQ (HandSHeadRun.denQ HandSHeadRun.tabQ) hdR.prog w) 4200 hdR.prog w os).map (fun s => (HandSHeadRun.looksF hdR.prog (PySem.W.boot_heap w.params) s.abs, HandSHeadRun.seenQ hdQ hdN (importedModules hdR.prog.main.body) (fun s => PySem.W.xlAt hdQ [] s && PySem.W.recOk hdR.toRowW.records s) s.abs)) = some (true, PySem.W.openGood hdQ hdN) := by
  kernel_rfl
set_option maxHeartbeats 0 in
theorem hd_2 (w : World) (os : OsState) : (HandSHeadRun.endF (HandSHeadRun.stepQ (HandSHeadRun.denQ HandSHeadRun.tabQ) hdR.prog w) 4200 hdR.prog w os).map (fun s => hdB.all fun f => f (He.frG (HandSHeadRun.getT s) hdA)) = some true := by
  kernel_rfl
set_option maxHeartbeats 0 in
theorem hd_3 (w : World) (os : OsState) : (HandSHeadRun.endF (HandSHeadRun.stepQ (HandSHeadRun.denQ HandSHeadRun.tabQ) hdR.prog w) 4200 hdR.prog w os).map (fun s => hdF.all fun d => d.ok (He.frG (HandSHeadRun.getT s) hdA)) = some true := by
  kernel_rfl
set_option maxHeartbeats 0 in
theorem hd_4 (w : World) (os : OsState) : (HandSHeadRun.endF (HandSHeadRun.stepQ (HandSHeadRun.denQ HandSHeadRun.tabQ) hdR.prog w) 4200 hdR.prog w os).map (fun s => hdF.map fun d => He.fnW (He.frG (HandSHeadRun.getT s) hdA) d.at_) = some (hdF.map He.DefD.val) := by
  kernel_rfl
set_option maxHeartbeats 0 in
theorem hd_5 (w : World) (os : OsState) : (HandSHeadRun.endF (HandSHeadRun.stepQ (HandSHeadRun.denQ HandSHeadRun.tabQ) hdR.prog w) 4200 hdR.prog w os).map (fun s => (hdX.all fun d => xcB (He.frG (HandSHeadRun.getT s) hdA) PySem.Challenge.pw_leastcomplaint_k77_dividends.main.file d, hdX.map fun d => xW (He.frG (HandSHeadRun.getT s) hdA) d.cls)) = some (true, hdX.map XcD.val) := by
  kernel_rfl
theorem hd_run (w : World) : HandSHeadRun.RunEq hdR hdQ hdK hdO 4200 hdN w := run_of (hd_1 w) (hd_2 w) (hd_3 w) (hd_4 w) (hd_5 w)
end K77


namespace DL
open PySem PySem.Spec PyProof.Rows L2

/-- data: what a value stands for -/
inductive D where
  | non | bl (b : Bool) | int (i : Int) | str (x : Str) | ty (n : String)
  | lst (xs : List D) | tup (xs : List D) | lsk (xs : List D)
  | dI (ks : List (List Int)) (vs : List D) | dK (ks : List Key) (vs : List D)
  | obj (nm : Str) (ns : List Str) (vs : List D)
  | ref (a : Addr)
  | exc (a dd : Addr) (f : Str) (x : D)
  | cls (n : Str)
  | dO (ks : List (List Int)) (vs : List D) (k : D) (v : D)

abbrev Frag := PySem.W.Frag
/-- a thing known by its one object -/
def objO (a : Addr) (o : Obj) : HO := .ext fun h => h.get? a = some o
/-- a dict whose keys are tuples of ints -/
def hI (k : List Int) : Int := reduceHash (Builtin.Tuple.tupleHashOf (k.map hashInt))
def entI (x : List Int × Addr × Value) : DictEntry := ⟨hI x.1, .ref x.2.1, x.2.2⟩
structure DictObj (a : Addr) (o : Obj) (xs : List (List Int × Addr × Value)) : Prop where
  ex : o.ExactDict
  dat : ∃ ep, o.data = .dict (xs.map entI).toArray ep
  nod : (xs.map (·.1)).Nodup
  len : xs.length ≤ sizeLine
  sys : (a == sysModules) = false
/-- such a dict with one more key of another kind at its end -/
structure OddObj (a : Addr) (o : Obj) (xs : List (List Int × Addr × Value)) (h : Int) (kv val : Value) : Prop where
  ex : o.ExactDict
  dat : ∃ ep, o.data = .dict (xs.map entI ++ [DictEntry.mk h kv val]).toArray ep
  nod : (xs.map (·.1)).Nodup
  len : xs.length + 1 ≤ sizeLine
  sys : (a == sysModules) = false
def bitI (b : Bool) : Int := if b = true then 1 else 0
def oddK : D → Prop
  | .str _ => True
  | .int _ => True
  | .non => True
  | .tup [.bl _] => True
  | _ => False
structure OddOk (ks : List (List Int)) (k : D) (h : Int) : Prop where
  odd : oddK k
  bits : ∀ b, k = .tup [.bl b] → [bitI b] ∉ ks ∧ h = hI [bitI b]

mutual
inductive Den (K : Frag) (F : Hp) : V → D → Prop
  | non : Den K F .non .non
  | bl (b : Bool) : Den K F (.bl b) (.bl b)
  | int (i : Int) : Den K F (.int i) (.int i)
  | str (x : Str) : Den K F (.str x) (.str x)
  | ty (n : String) : Den K F (.ty n) (.ty n)
  | lst {a : Addr} {xs : List V} {ds : List D} : Rd F a (.lst xs) → Dens K F xs ds → Den K F (.ref a) (.lst ds)
  | tup {a : Addr} {xs : List V} {ds : List D} : SqT K F a xs → Dens K F xs ds → Den K F (.ref a) (.tup ds)
  | lsk {a : Addr} {xs : List V} {ds : List D} : SqL K F a xs → Dens K F xs ds → Den K F (.ref a) (.lsk ds)
  | dI {a : Addr} {o : Obj} {xs : List (List Int × Addr × Value)} {vs : List V} {ks : List (List Int)} {ds : List D} : F a = some (objO a o) → DictObj a o xs → xs.map (·.1) = ks → (∀ x ∈ xs, SqT K F x.2.1 (x.1.map V.int)) → Vals vs (xs.map (·.2.2)) → Dens K F vs ds → Den K F (.ref a) (.dI ks ds)
  | dK {a : Addr} {kvs : List (Key × V)} {ks : List Key} {ds : List D} : Rd F a (.dK kvs) → kvs.map (·.1) = ks → Dens K F (kvs.map (·.2)) ds → Den K F (.ref a) (.dK ks ds)
  | obj {a C dx : Addr} {fs : List (Str × V)} {nm : Str} {ns : List Str} {ds : List D} : F a = some (.ins C dx fs) → PySem.W.nsIn K mainGlobals nm = some (some (.ref C)) → fs.map (·.1) = ns → Dens K F (fs.map (·.2)) ds → Den K F (.ref a) (.obj nm ns ds)
  | ref (a : Addr) : Den K F (.ref a) (.ref a)
  | exc {a dd : Addr} {f : Str} {v : V} {x : D} : F dd = some (.xd [(f, v)]) → Den K F v x → Den K F (.ref a) (.exc a dd f x)
  | cls {C : Addr} {n : Str} : PySem.W.nsIn K mainGlobals n = some (some (.ref C)) → Den K F (.ref C) (.cls n)
  | dO {a : Addr} {o : Obj} {xs : List (List Int × Addr × Value)} {h : Int} {kv val : Value} {kV vV : V} {vs : List V} {ks : List (List Int)} {ds : List D} {k d : D} : F a = some (objO a o) → OddObj a o xs h kv val → xs.map (·.1) = ks → (∀ x ∈ xs, SqT K F x.2.1 (x.1.map V.int)) → Vals vs (xs.map (·.2.2)) → Dens K F vs ds → OddOk ks k h → RelV kV kv → Den K F kV k → RelV vV val → Den K F vV d → Den K F (.ref a) (.dO ks ds k d)
inductive Dens (K : Frag) (F : Hp) : List V → List D → Prop
  | nil : Dens K F [] []
  | cons {v : V} {vs : List V} {d : D} {ds : List D} : Den K F v d → Dens K F vs ds → Dens K F (v :: vs) (d :: ds)
end

def Ex (H H' : Hp) : Prop := ∀ a o, H a = some o → H' a = some o
theorem Ex.refl (H : Hp) : Ex H H := fun _ _ h => h
theorem Ex.trans {H H1 H2 : Hp} (a : Ex H H1) (b : Ex H1 H2) : Ex H H2 := fun x o h => b x o (a x o h)
theorem Ex.new {H : Hp} {p : Addr} {o : HO} (h : H p = none) : Ex H (upd H p o) := fun a u e => by
  rw [upd_ne (ne_of_none e h)]
  exact e
theorem Ex.rd {H H' : Hp} {a : Addr} {u : HO} (e : Ex H H') (h : Rd H a u) : Rd H' a u := by
  rcases h with h | ⟨o, h⟩
  · exact .inl (e a _ h)
  · exact .inr ⟨o, e a _ h⟩
theorem Ex.sqL {K : Frag} {H H' : Hp} {a : Addr} {xs : List V} (e : Ex H H') (h : SqL K H a xs) : SqL K H' a xs := by
  rcases h with h | h
  · exact .inl (e.rd h)
  · exact .inr h
theorem Ex.sqT {K : Frag} {H H' : Hp} {a : Addr} {xs : List V} (e : Ex H H') (h : SqT K H a xs) : SqT K H' a xs := by
  rcases h with h | h
  · exact .inl (e.rd h)
  · exact .inr h
theorem Ex.free {H H' : Hp} {p : Addr} (e : Ex H H') (h : H' p = none) : H p = none := by
  cases h1 : H p with
  | none => rfl
  | some o => rw [e p o h1] at h; cases h

mutual
theorem Den.mono {K : Frag} {F F' : Hp} (e : Ex F F') : ∀ {v : V} {d : D}, Den K F v d → Den K F' v d
  | _, _, .non => .non
  | _, _, .bl b => .bl b
  | _, _, .int i => .int i
  | _, _, .str x => .str x
  | _, _, .ty n => .ty n
  | _, _, .lst h hs => .lst (e.rd h) (Dens.mono e hs)
  | _, _, .tup h hs => .tup (e.sqT h) (Dens.mono e hs)
  | _, _, .lsk h hs => .lsk (e.sqL h) (Dens.mono e hs)
  | _, _, .dI h ho hk ht hv hs => .dI (e _ _ h) ho hk (fun x hx => e.sqT (ht x hx)) hv (Dens.mono e hs)
  | _, _, .dK h hk hs => .dK (e.rd h) hk (Dens.mono e hs)
  | _, _, .obj h hn hk hs => .obj (e _ _ h) hn hk (Dens.mono e hs)
  | _, _, .ref a => .ref a
  | _, _, .exc h q => .exc (e _ _ h) (Den.mono e q)
  | _, _, .cls h => .cls h
  | _, _, .dO h ho hk ht hv hs ok rk qk rv qv => .dO (e _ _ h) ho hk (fun x hx => e.sqT (ht x hx)) hv (Dens.mono e hs) ok rk (Den.mono e qk) rv (Den.mono e qv)
theorem Dens.mono {K : Frag} {F F' : Hp} (e : Ex F F') : ∀ {vs : List V} {ds : List D}, Dens K F vs ds → Dens K F' vs ds
  | _, _, .nil => .nil
  | _, _, .cons h hs => .cons (Den.mono e h) (Dens.mono e hs)
end
section
variable {K : Frag} {F : Hp}
theorem Dens.length : ∀ {vs : List V} {ds : List D}, Dens K F vs ds → vs.length = ds.length
  | _, _, .nil => rfl
  | _, _, .cons _ hs => by rw [List.length_cons, List.length_cons, Dens.length hs]
theorem Dens.get : ∀ {vs : List V} {ds : List D} {i : Nat} {d : D}, Dens K F vs ds → ds[i]? = some d → ∃ v, vs[i]? = some v ∧ Den K F v d
  | _, _, _, _, .nil, e => by simp at e
  | _, _, 0, _, .cons h _, e => by simp at e; subst e; exact ⟨_, rfl, h⟩
  | _, _, i + 1, d, .cons _ hs, e => by
    obtain ⟨v, h1, h2⟩ := Dens.get (i := i) (d := d) hs (by simpa using e)
    exact ⟨v, by simpa using h1, h2⟩
theorem Dens.getV : ∀ {vs : List V} {ds : List D} {i : Nat} {v : V}, Dens K F vs ds → vs[i]? = some v → ∃ d, ds[i]? = some d ∧ Den K F v d
  | _, _, _, _, .nil, e => by simp at e
  | _, _, 0, _, .cons h _, e => by simp at e; subst e; exact ⟨_, rfl, h⟩
  | _, _, i + 1, v, .cons _ hs, e => by
    obtain ⟨d, h1, h2⟩ := Dens.getV (i := i) (v := v) hs (by simpa using e)
    exact ⟨d, by simpa using h1, h2⟩
theorem Dens.append : ∀ {vs ws : List V} {ds es : List D}, Dens K F vs ds → Dens K F ws es → Dens K F (vs ++ ws) (ds ++ es)
  | _, _, _, _, .nil, s => s
  | _, _, _, _, .cons h t, s => .cons h (Dens.append t s)
theorem Dens.snoc {vs : List V} {ds : List D} {v : V} {d : D} (h : Dens K F vs ds) (h1 : Den K F v d) : Dens K F (vs ++ [v]) (ds ++ [d]) := h.append (.cons h1 .nil)
theorem Dens.set : ∀ {vs : List V} {ds : List D} {v : V} {d : D} (i : Nat), Dens K F vs ds → Den K F v d → Dens K F (vs.set i v) (ds.set i d)
  | _, _, _, _, _, .nil, _ => .nil
  | _, _, _, _, 0, .cons _ t, h => .cons h t
  | _, _, _, _, i + 1, .cons q t, h => .cons q (Dens.set i t h)
theorem Dens.take : ∀ {vs : List V} {ds : List D} (n : Nat), Dens K F vs ds → Dens K F (vs.take n) (ds.take n)
  | _, _, 0, _ => .nil
  | _, _, _ + 1, .nil => .nil
  | _, _, n + 1, .cons r t => .cons r (Dens.take n t)
theorem Dens.drop : ∀ {vs : List V} {ds : List D} (n : Nat), Dens K F vs ds → Dens K F (vs.drop n) (ds.drop n)
  | _, _, 0, r => r
  | _, _, _ + 1, .nil => .nil
  | _, _, n + 1, .cons _ t => Dens.drop n t
theorem Dens.ints : ∀ {ns : List Int} {vs : List V}, Dens K F vs (ns.map D.int) → vs = ns.map V.int
  | [], _, .nil => rfl
  | n :: ns, _, .cons (.int _) t => by rw [Dens.ints t]; rfl
theorem Dens.of_ints : ∀ {ns : List Int}, Dens K F (ns.map V.int) (ns.map D.int)
  | [] => .nil
  | n :: ns => .cons (.int n) Dens.of_ints
theorem Dens.bls : ∀ {bs : List Bool} {vs : List V}, Dens K F vs (bs.map D.bl) → vs = bs.map V.bl
  | [], _, .nil => rfl
  | b :: bs, _, .cons (.bl _) t => by rw [Dens.bls t]; rfl
end

/-! ### the ledger: objects that may change -/
inductive MO where
  | lst (ds : List D)
  | ins (nm : Str) (dx : Addr) (ns : List Str) (ds : List D)
  | own (x : Addr)
  | dI (ks : List (List Int)) (ds : List D)
  | dK (ks : List Key) (ds : List D)
  | dO (ks : List (List Int)) (ds : List D) (k : D) (d : D)
abbrev Led := List (Addr × MO)
def MDen (K : Frag) (F : Hp) (a : Addr) : MO → HO → Prop
  | .lst ds, h => ∃ xs, h = .lst xs ∧ Dens K F xs ds
  | .ins nm dx ns ds, h => ∃ (C : Addr) (fs : List (Str × V)), h = .ins C dx fs ∧ PySem.W.nsIn K mainGlobals nm = some (some (.ref C)) ∧ fs.map (·.1) = ns ∧ Dens K F (fs.map (·.2)) ds
  | .own x, h => h = .own x
  | .dI ks ds, h => ∃ (o : Obj) (xs : List (List Int × Addr × Value)) (vs : List V), h = objO a o ∧ DictObj a o xs ∧ xs.map (·.1) = ks ∧ (∀ x ∈ xs, SqT K F x.2.1 (x.1.map V.int)) ∧ Vals vs (xs.map (·.2.2)) ∧ Dens K F vs ds
  | .dK ks ds, h => ∃ kvs : List (Key × V), h = .dK kvs ∧ kvs.map (·.1) = ks ∧ Dens K F (kvs.map (·.2)) ds
  | .dO ks ds k d, h => ∃ (o : Obj) (xs : List (List Int × Addr × Value)) (hh : Int) (kv val : Value) (kV vV : V) (vs : List V), h = objO a o ∧ OddObj a o xs hh kv val ∧ xs.map (·.1) = ks ∧ (∀ x ∈ xs, SqT K F x.2.1 (x.1.map V.int)) ∧ Vals vs (xs.map (·.2.2)) ∧ Dens K F vs ds ∧ OddOk ks k hh ∧ RelV kV kv ∧ Den K F kV k ∧ RelV vV val ∧ Den K F vV d
theorem MDen.mono {K : Frag} {F F' : Hp} {a : Addr} (e : Ex F F') : ∀ {o : MO} {h : HO}, MDen K F a o h → MDen K F' a o h
  | .lst _, _, ⟨xs, q, hs⟩ => ⟨xs, q, hs.mono e⟩
  | .ins .., _, ⟨C, fs, q, n, k, hs⟩ => ⟨C, fs, q, n, k, hs.mono e⟩
  | .own _, _, q => q
  | .dI .., _, ⟨o, xs, vs, q, d, k, t, v, hs⟩ => ⟨o, xs, vs, q, d, k, fun x hx => e.sqT (t x hx), v, hs.mono e⟩
  | .dK .., _, ⟨fs, q, k, hs⟩ => ⟨fs, q, k, hs.mono e⟩
  | .dO .., _, ⟨o, xs, hh, kv, val, kV, vV, vs, q, d, k, t, v, hs, ok, rk, qk, rv, qv⟩ => ⟨o, xs, hh, kv, val, kV, vV, vs, q, d, k, fun x hx => e.sqT (t x hx), v, hs.mono e, ok, rk, qk.mono e, rv, qv.mono e⟩

abbrev keys (m : Led) : List Addr := m.map (·.1)
structure At (K : Frag) (F : Hp) (m : Led) (H : Hp) : Prop where
  sub : Ex F H
  led : ∀ p ∈ m, ∃ h, MDen K F p.1 p.2 h ∧ H p.1 = some h
  dis : ∀ p ∈ m, F p.1 = none
  nod : (keys m).Nodup
structure Step (K : Frag) (F : Hp) (m : Led) (H : Hp) (F2 : Hp) (m2 : Led) (H2 : Hp) : Prop where
  at2 : At K F2 m2 H2
  ex : Ex F F2
  keep : ∀ a o, H a = some o → a ∉ keys m → H2 a = some o
  frF : ∀ a o, F2 a = some o → F a = none → H a = none ∨ a ∈ keys m
  frM : ∀ a ∈ keys m2, a ∈ keys m ∨ H a = none
section
variable {K : Frag} {F F1 F2 H H1 H2 : Hp} {m m1 m2 : Led}
theorem Step.refl (a : At K F m H) : Step K F m H F m H := ⟨a, Ex.refl _, fun _ _ h _ => h, fun a o h n => (by rw [n] at h; cases h), fun _ h => .inl h⟩
theorem Step.trans (a : Step K F m H F1 m1 H1) (b : Step K F1 m1 H1 F2 m2 H2) : Step K F m H F2 m2 H2 := by
  have nk : ∀ x o, H x = some o → x ∉ keys m → x ∉ keys m1 := fun x o h n z => by
    rcases a.frM x z with q | q
    · exact n q
    · rw [h] at q; cases q
  have nn : ∀ x, H1 x = none → H x = none ∨ x ∈ keys m := fun x h => by
    by_cases n : x ∈ keys m
    · exact .inr n
    · left
      cases q : H x with
      | none => rfl
      | some o => rw [a.keep x o q n] at h; cases h
  refine ⟨b.at2, a.ex.trans b.ex, fun x o h n => b.keep x o (a.keep x o h n) (nk x o h n), fun x o h n => ?_, fun x h => ?_⟩
  · cases q : F1 x with
    | some o1 => exact a.frF x o1 q n
    | none =>
      rcases b.frF x o h q with z | z
      · exact nn x z
      · exact (a.frM x z).symm
  · rcases b.frM x h with z | z
    · exact a.frM x z
    · exact (nn x z).symm
/-- a new frozen object -/
theorem Step.new {p : Addr} {o : HO} (a : At K F m H) (h : H p = none) : Step K F m H (upd F p o) m (upd H p o) := by
  have hF : F p = none := a.sub.free h
  have np : p ∉ keys m := fun z => by
    obtain ⟨q, hq, e⟩ := List.mem_map.mp z
    obtain ⟨hh, _, e2⟩ := a.led q hq
    rw [e, h] at e2; cases e2
  refine ⟨⟨fun x u e => ?_, fun q hq => ?_, fun q hq => ?_, a.nod⟩, Ex.new hF, fun x u e _ => by rw [upd_ne (ne_of_none e h)]; exact e, fun x u e n => ?_, fun x h => .inl h⟩
  · by_cases hx : x = p
    · subst hx; rw [upd_same] at e ⊢; exact e
    · rw [upd_ne hx] at e ⊢; exact a.sub x u e
  · obtain ⟨hh, e1, e2⟩ := a.led q hq
    exact ⟨hh, e1.mono (Ex.new hF), by rw [upd_ne (ne_of_none e2 h)]; exact e2⟩
  · have : q.1 ≠ p := fun z => np (z ▸ List.mem_map.mpr ⟨q, hq, rfl⟩)
    rw [upd_ne this]; exact a.dis q hq
  · by_cases hx : x = p
    · subst hx; exact .inl h
    · rw [upd_ne hx, n] at e; cases e
/-- a new object in the ledger -/
theorem Step.newM {p : Addr} {o : HO} {mo : MO} (a : At K F m H) (h : H p = none) (hm : MDen K F p mo o) : Step K F m H F (m ++ [(p, mo)]) (upd H p o) := by
  have hF : F p = none := a.sub.free h
  have np : p ∉ keys m := fun z => by
    obtain ⟨q, hq, e⟩ := List.mem_map.mp z
    obtain ⟨hh, _, e2⟩ := a.led q hq
    rw [e, h] at e2; cases e2
  refine ⟨⟨fun x u e => ?_, fun q hq => ?_, fun q hq => ?_, ?_⟩, Ex.refl _, fun x u e _ => by rw [upd_ne (ne_of_none e h)]; exact e, fun x u e n => (by rw [n] at e; cases e), fun x hx => ?_⟩
  · rw [upd_ne (ne_of_none e hF)]; exact a.sub x u e
  · rcases List.mem_append.mp hq with hq | hq
    · obtain ⟨hh, e1, e2⟩ := a.led q hq
      exact ⟨hh, e1, by rw [upd_ne (ne_of_none e2 h)]; exact e2⟩
    · obtain rfl : q = (p, mo) := by simpa using hq
      exact ⟨o, hm, upd_same⟩
  · rcases List.mem_append.mp hq with hq | hq
    · exact a.dis q hq
    · obtain rfl : q = (p, mo) := by simpa using hq
      exact hF
  · show (List.map (·.1) (m ++ [(p, mo)])).Nodup
    rw [List.map_append]
    refine List.nodup_append.mpr ⟨a.nod, by simp, fun x hx y hy => ?_⟩
    obtain rfl : y = p := by simpa using hy
    exact fun z => np (z ▸ hx)
  · have hx' : x ∈ List.map (·.1) (m ++ [(p, mo)]) := hx
    rw [List.map_append] at hx'
    rcases List.mem_append.mp hx' with q | q
    · exact .inl q
    · obtain rfl : x = p := by simpa using q
      exact .inr h
theorem At.get {i : Nat} {p : Addr} {o : MO} (a : At K F m H) (h : m[i]? = some (p, o)) : ∃ hh, MDen K F p o hh ∧ H p = some hh := a.led (p, o) (List.mem_of_getElem? h)
theorem keys_set {i : Nat} {p : Addr} {o o' : MO} (h : m[i]? = some (p, o)) : keys (m.set i (p, o')) = keys m := by
  show List.map (·.1) (m.set i (p, o')) = _
  rw [List.map_set]
  apply List.ext_getElem?
  intro j
  by_cases hj : i = j
  · subst hj
    have hl : i < m.length := (List.getElem?_eq_some_iff.mp h).1
    rw [List.getElem?_set_self (by simpa using hl), List.getElem?_map, h]; rfl
  · rw [List.getElem?_set_ne hj]
/-- an object of the ledger written -/
theorem Step.write {i : Nat} {p : Addr} {o o' : MO} {u : HO} (a : At K F m H) (h : m[i]? = some (p, o)) (hm : MDen K F p o' u) : Step K F m H F (m.set i (p, o')) (upd H p u) := by
  have hin : (p, o) ∈ m := List.mem_of_getElem? h
  have hF : F p = none := a.dis _ hin
  have pk : p ∈ keys m := List.mem_map.mpr ⟨_, hin, rfl⟩
  have hl : i < m.length := (List.getElem?_eq_some_iff.mp h).1
  have ek := keys_set (o' := o') h
  refine ⟨⟨fun x u e => ?_, fun q hq => ?_, fun q hq => ?_, by rw [ek]; exact a.nod⟩, Ex.refl _, fun x u e n => ?_, fun x u e n => (by rw [n] at e; cases e), fun x hx => .inl (ek ▸ hx)⟩
  · rw [upd_ne (ne_of_none e hF)]; exact a.sub x u e
  · obtain ⟨j, hj⟩ := List.mem_iff_getElem?.mp hq
    by_cases hij : i = j
    · subst hij
      rw [List.getElem?_set_self hl] at hj
      cases hj
      exact ⟨u, hm, upd_same⟩
    · rw [List.getElem?_set_ne hij] at hj
      obtain ⟨hh, e1, e2⟩ := a.led q (List.mem_of_getElem? hj)
      have : q.1 ≠ p := fun z => by
        have k1 : (keys m)[j]? = some p := by rw [List.getElem?_map, hj]; exact congrArg some z
        have k2 : (keys m)[i]? = some p := by rw [List.getElem?_map, h]; rfl
        exact hij (nd_ix a.nod k2 k1)
      exact ⟨hh, e1, by rw [upd_ne this]; exact e2⟩
  · obtain ⟨j, hj⟩ := List.mem_iff_getElem?.mp hq
    by_cases hij : i = j
    · subst hij
      rw [List.getElem?_set_self hl] at hj
      cases hj
      exact hF
    · rw [List.getElem?_set_ne hij] at hj
      exact a.dis q (List.mem_of_getElem? hj)
  · have : x ≠ p := fun z => n (z ▸ pk)
    rw [upd_ne this]; exact e
/-- part of the ledger forgotten -/
theorem Step.drop (a : At K F m H) (h : m2.Sublist m) : Step K F m H F m2 H :=
  ⟨⟨a.sub, fun p hp => a.led p (h.subset hp), fun p hp => a.dis p (h.subset hp), a.nod.sublist (h.map _)⟩, Ex.refl _, fun _ _ e _ => e, fun x u e n => (by rw [n] at e; cases e),
    fun x hx => .inl ((h.map _).subset hx)⟩
/-- a list of the ledger frozen -/
theorem Step.freeze {i : Nat} {p : Addr} {ds : List D} (a : At K F m H) (h : m[i]? = some (p, .lst ds)) : ∃ F2, Step K F m H F2 (m.eraseIdx i) H ∧ Den K F2 (.ref p) (.lst ds) := by
  obtain ⟨hh, ⟨xs, rfl, hs⟩, e⟩ := a.get h
  have hin : (p, MO.lst ds) ∈ m := List.mem_of_getElem? h
  have hF : F p = none := a.dis _ hin
  have sl : (m.eraseIdx i).Sublist m := List.eraseIdx_sublist ..
  refine ⟨upd F p (.lst xs), ⟨⟨fun x u q => ?_, fun q hq => ?_, fun q hq => ?_, a.nod.sublist (sl.map _)⟩, Ex.new hF, fun _ _ e _ => e, fun x u q n => ?_, fun x hx => .inl ((sl.map _).subset hx)⟩, .lst (.inl upd_same) (hs.mono (Ex.new hF))⟩
  · by_cases hx : x = p
    · subst hx; rw [upd_same] at q; cases q; exact e
    · rw [upd_ne hx] at q; exact a.sub x u q
  · obtain ⟨hh, e1, e2⟩ := a.led q (sl.subset hq)
    exact ⟨hh, e1.mono (Ex.new hF), e2⟩
  · have : q.1 ≠ p := fun z => by
      obtain ⟨j, hj⟩ := List.mem_iff_getElem?.mp hq
      rw [List.getElem?_eraseIdx] at hj
      split at hj
      · have k1 : (keys m)[j]? = some p := by rw [List.getElem?_map, hj]; exact congrArg some z
        have k2 : (keys m)[i]? = some p := by rw [List.getElem?_map, h]; rfl
        have := nd_ix a.nod k2 k1
        omega
      · have k1 : (keys m)[j + 1]? = some p := by rw [List.getElem?_map, hj]; exact congrArg some z
        have k2 : (keys m)[i]? = some p := by rw [List.getElem?_map, h]; rfl
        have := nd_ix a.nod k2 k1
        omega
    rw [upd_ne this]; exact a.dis q (sl.subset hq)
  · by_cases hx : x = p
    · subst hx; exact .inr (List.mem_map.mpr ⟨_, hin, rfl⟩)
    · rw [upd_ne hx, n] at q; cases q
end
/-- a list that may be read: frozen or of the ledger -/
def LstV (m : Led) (d : D) (ds : List D) : Prop := d = .lst ds ∨ ∃ (i : Nat) (a : Addr), d = .ref a ∧ m[i]? = some (a, .lst ds)
theorem LstV.read {K : Frag} {F H : Hp} {m : Led} {d : D} {ds : List D} {v : V} (h : LstV m d ds) (a : At K F m H) (q : Den K F v d) : ∃ p xs, v = .ref p ∧ Rd H p (.lst xs) ∧ Dens K F xs ds := by
  rcases h with rfl | ⟨i, p, rfl, hi⟩
  · cases q with
    | lst h hs => exact ⟨_, _, rfl, a.sub.rd h, hs⟩
  · cases q
    obtain ⟨hh, ⟨xs, rfl, hs⟩, e⟩ := a.get hi
    exact ⟨p, xs, rfl, .inl e, hs⟩
theorem tup_read {K : Frag} {F H : Hp} {m : Led} {ds : List D} {v : V} (a : At K F m H) (q : Den K F v (.tup ds)) : ∃ p xs, v = .ref p ∧ SqT K H p xs ∧ Dens K F xs ds := by
  cases q with
  | tup h hs => exact ⟨_, _, rfl, a.sub.sqT h, hs⟩

/-! ### slots -/
abbrev Rho := List (Option D)
structure Envs (K : Frag) (F : Hp) (σ : L2.St) (ρ : Rho) : Prop where
  len : σ.length = ρ.length
  get : ∀ (i : Nat) (d : D), ρ[i]? = some (some d) → ∃ v, σ[i]? = some (some v) ∧ Den K F v d
theorem Envs.mono {K : Frag} {F F' : Hp} {σ : L2.St} {ρ : Rho} (h : Envs K F σ ρ) (e : Ex F F') : Envs K F' σ ρ := ⟨h.len, fun i d q => let ⟨v, a, b⟩ := h.get i d q; ⟨v, a, b.mono e⟩⟩
theorem Envs.set {K : Frag} {F : Hp} {σ : L2.St} {ρ : Rho} {v : V} {d : D} (h : Envs K F σ ρ) (q : Den K F v d) (i : Nat) : Envs K F (σ.set i (some v)) (ρ.set i (some d)) := by
  refine ⟨by simpa using h.len, fun j e hj => ?_⟩
  by_cases hij : i = j
  · subst hij
    by_cases hl : i < ρ.length
    · rw [List.getElem?_set_self hl] at hj
      cases hj
      exact ⟨v, by rw [List.getElem?_set_self (by rw [h.len]; exact hl)], q⟩
    · rw [List.getElem?_eq_none (by simpa using hl)] at hj; cases hj
  · rw [List.getElem?_set_ne hij] at hj ⊢
    exact h.get j e hj
def wipeD (ρ : Rho) : List Nat → Rho
  | [] => ρ
  | v :: vs => (wipeD ρ vs).set v none
theorem Envs.unset {K : Frag} {F : Hp} {σ : L2.St} {ρ : Rho} (h : Envs K F σ ρ) (i : Nat) : Envs K F (σ.set i none) (ρ.set i none) := by
  refine ⟨by simpa using h.len, fun j e hj => ?_⟩
  by_cases hij : i = j
  · subst hij
    by_cases hl : i < ρ.length
    · rw [List.getElem?_set_self hl] at hj; cases hj
    · rw [List.getElem?_eq_none (by simpa using hl)] at hj; cases hj
  · rw [List.getElem?_set_ne hij] at hj ⊢
    exact h.get j e hj
theorem Envs.wipe {K : Frag} {F : Hp} {σ : L2.St} {ρ : Rho} (h : Envs K F σ ρ) : ∀ vs : List Nat, Envs K F (L2.wipe σ vs) (wipeD ρ vs)
  | [] => h
  | v :: vs => (h.wipe vs).unset v
theorem wipe_set_none {σ : L2.St} {j : Nat} : ∀ {vs : List Nat}, j ∈ vs → (L2.wipe σ vs).set j none = L2.wipe σ vs
  | v :: vs, h => by
    show ((L2.wipe σ vs).set v none).set j none = (L2.wipe σ vs).set v none
    by_cases e : v = j
    · subst e; rw [List.set_set]
    · rw [List.set_comm _ _ e]
      have : j ∈ vs := by
        rcases List.mem_cons.mp h with z | z
        · exact absurd z.symm e
        · exact z
      rw [wipe_set_none this]
theorem wipe_wipe {σ : L2.St} : ∀ (ws vs : List Nat), (∀ j ∈ ws, j ∈ vs) → L2.wipe (L2.wipe σ vs) ws = L2.wipe σ vs
  | [], _, _ => rfl
  | w :: ws, vs, h => by
    show (L2.wipe (L2.wipe σ vs) ws).set w none = _
    rw [wipe_wipe ws vs fun j hj => h j (List.mem_cons_of_mem _ hj)]
    exact wipe_set_none (h w List.mem_cons_self)
theorem wipe_set {y : Option V} {j : Nat} : ∀ {σ : L2.St} {vs : List Nat}, j ∈ vs → L2.wipe (σ.set j y) vs = L2.wipe σ vs
  | σ, v :: vs, h => by
    show (L2.wipe (σ.set j y) vs).set v none = (L2.wipe σ vs).set v none
    by_cases e : j ∈ vs
    · rw [wipe_set e]
    · have ej : v = j := by
        rcases List.mem_cons.mp h with z | z
        · exact z.symm
        · exact absurd z e
      subst ej
      have key : ∀ (ws : List Nat) (τ : L2.St), v ∉ ws → L2.wipe (τ.set v y) ws = (L2.wipe τ ws).set v y := by
        intro ws
        induction ws with
        | nil => intro τ _; rfl
        | cons w ws ih =>
          intro τ hn
          show (L2.wipe (τ.set v y) ws).set w none = ((L2.wipe τ ws).set w none).set v y
          rw [ih τ fun z => hn (List.mem_cons_of_mem _ z), List.set_comm]
          exact fun z => hn (z ▸ List.mem_cons_self)
      rw [key vs σ e, List.set_set]
theorem wipe_back {y : Option V} {j : Nat} {σ : L2.St} {vs : List Nat} (h : j ∈ vs) : L2.wipe ((L2.wipe σ vs).set j y) vs = L2.wipe σ vs := by
  rw [wipe_set h, wipe_wipe vs vs fun _ q => q]
end DL


namespace DL
open PySem PySem.Spec PyProof.Rows L2

/-! ### slots by name -/
abbrev Rn := List (Str × Option D)
/-- the slots: names and what they hold -/
structure Env (X : Cx) (F : Hp) (σ : L2.St) (ρ : Rn) : Prop where
  nd : X.N.Nodup
  nm : ρ.map (·.1) = X.N
  ev : Envs X.K F σ (ρ.map (·.2))
inductive LookAt : Rn → Nat → Str → D → Prop
  | here {x : Str} {d : D} {r : Rn} : LookAt ((x, some d) :: r) 0 x d
  | there {x : Str} {d : D} {r : Rn} {q : Str × Option D} {i : Nat} : LookAt r i x d → LookAt (q :: r) (i + 1) x d
inductive SetAt : Rn → Nat → Str → D → Rn → Prop
  | here {x : Str} {d : D} {o : Option D} {r : Rn} : SetAt ((x, o) :: r) 0 x d ((x, some d) :: r)
  | there {x : Str} {d : D} {r r' : Rn} {q : Str × Option D} {i : Nat} : SetAt r i x d r' → SetAt (q :: r) (i + 1) x d (q :: r')
theorem LookAt.get : ∀ {ρ : Rn} {i : Nat} {x : Str} {d : D}, LookAt ρ i x d → ρ[i]? = some (x, some d)
  | _, _, _, _, .here => rfl
  | _, _, _, _, .there h => by rw [List.getElem?_cons_succ]; exact h.get
theorem SetAt.eq : ∀ {ρ ρ' : Rn} {i : Nat} {x : Str} {d : D}, SetAt ρ i x d ρ' → ρ' = ρ.set i (x, some d) ∧ (ρ.map (·.1))[i]? = some x
  | _, _, _, _, _, .here => ⟨rfl, rfl⟩
  | _, _, _, _, _, .there h => by
    obtain ⟨h1, h2⟩ := h.eq
    exact ⟨by rw [List.set_cons_succ, h1], by rw [List.map_cons, List.getElem?_cons_succ]; exact h2⟩
section
variable {X : Cx} {F F' : Hp} {σ : L2.St} {ρ ρ' : Rn} {i : Nat} {x : Str} {d : D}
theorem Env.look (e : Env X F σ ρ) (h : LookAt ρ i x d) : X.N[i]? = some x ∧ ∃ v, σ[i]? = some (some v) ∧ Den X.K F v d := by
  have g := h.get
  refine ⟨by rw [← e.nm, List.getElem?_map, g]; rfl, e.ev.get i d (by rw [List.getElem?_map, g]; rfl)⟩
theorem Env.mono (e : Env X F σ ρ) (h : Ex F F') : Env X F' σ ρ := ⟨e.nd, e.nm, e.ev.mono h⟩
theorem Env.set {v : V} (e : Env X F σ ρ) (h : SetAt ρ i x d ρ') (q : Den X.K F v d) : Env X F (σ.set i (some v)) ρ' := by
  obtain ⟨rfl, hx⟩ := h.eq
  refine ⟨e.nd, ?_, by rw [List.map_set]; exact e.ev.set q i⟩
  rw [List.map_set, ← e.nm]
  apply List.ext_getElem?
  intro j
  by_cases hj : i = j
  · subst hj
    rw [hx, List.getElem?_set_self (List.getElem?_eq_some_iff.mp hx).1]
  · rw [List.getElem?_set_ne hj]
theorem Env.ix (e : Env X F σ ρ) (h : SetAt ρ i x d ρ') : X.N[i]? = some x := by rw [← e.nm]; exact h.eq.2
end

/-! ### what is wanted of code, in the model's own terms -/
def SE (X : Cx) (e : Expr) (σ : L2.St) (H : Hp) (Q : VK) : Prop := ∀ pins s, Inv X pins σ H s → wpAny (model X.prog X.w) X.A (eval e X.env) (EP X pins σ Q) X.xe s
def ST (X : Cx) (e : Expr) (σ : L2.St) (H : Hp) (Q : Bool → Hp → Prop) : Prop := ∀ pins s, Inv X pins σ H s → wpAny (model X.prog X.w) X.A (isTrue e X.env (eval e X.env)) (TP X pins σ Q) X.xe s
def SW (X : Cx) (e : Expr) (σ : L2.St) (H : Hp) (Q : Bool → Hp → Prop) : Prop := ∀ whole pins s, Inv X pins σ H s → wpAny (model X.prog X.w) X.A (isTrue e X.env whole) (TP X pins σ Q) X.xe s
def SA (X : Cx) (es : List Expr) (σ : L2.St) (H : Hp) (Q : List V → Hp → Prop) : Prop := ∀ pos pins s, Inv X pins σ H s → wpAny (model X.prog X.w) X.A (spliced (backTo pos (starEach es X.env))) (AP X pins σ Q) X.xe s
def SS (X : Cx) (st : Stmt) (D : Ends) (σ : L2.St) (H : Hp) : Prop := ∀ pins s, Inv X pins σ H s → wpAny (model X.prog X.w) X.A (exec st X.env) (SP X pins D) X.xe s
def SSs (X : Cx) (st : List Stmt) (D : Ends) (σ : L2.St) (H : Hp) : Prop := ∀ pins s, Inv X pins σ H s → wpAny (model X.prog X.w) X.A (execs st X.env) (SP X pins D) X.xe s
def SI (X : Cx) (tg it : Expr) (σ : L2.St) (H : Hp) (R : It → Hp → Prop) : Prop := ∀ pins s, Inv X pins σ H s →
  wpAny (model X.prog X.w) X.A (eval it X.env) (fun v s1 => wpAny (model X.prog X.w) X.A (pyIter v) (PIE X pins σ tg R) X.xe s1) X.xe s
def SG (X : Cx) (tg : Expr) (v : V) (σ : L2.St) (H : Hp) (Q : L2.St → Hp → Prop) : Prop := ∀ pins s u, Inv X pins σ H s → RelV v u →
  wpAny (model X.prog X.w) X.A (assign tg X.env u) (fun _ s' => ∃ σ' H', Inv X pins σ' H' s' ∧ Q σ' H') X.xe s
section
variable {X : Cx} {e : Expr} {es : List Expr} {st : Stmt} {sts : List Stmt} {σ : L2.St} {H : Hp}
theorem pe_SE : PE X e (SE X e) := ⟨fun pins s σ H Q I h => h pins s I⟩
theorem pt_ST : PT X e (ST X e) := ⟨fun pins s σ H Q I h => h pins s I⟩
theorem pw_SW : PW X e (SW X e) := ⟨fun wh pins s σ H Q I h => h wh pins s I⟩
theorem pa_SA : PA X es (SA X es) := ⟨fun pos pins s σ H Q I h => h pos pins s I⟩
theorem ps_SS : PS X st (SS X st) := ⟨fun pins s σ H D I h => h pins s I⟩
theorem pss_SS : PSs X sts (SSs X sts) := ⟨fun pins s σ H D I h => h pins s I⟩
theorem pi_SI {tg it : Expr} : PI X tg it (SI X tg it) := ⟨fun pins s σ H R I h => h pins s I⟩
theorem pg_SG {tg : Expr} : PG X tg (SG X tg) := ⟨fun pins s σ H v u Q I r h => h pins s u I r⟩
theorem SE.of {t : TE} {Q : VK} (h : PE X e t) (q : t σ H Q) : SE X e σ H Q := fun pins s I => h.run pins s σ H Q I q
theorem ST.of {t : TT} {Q : Bool → Hp → Prop} (h : PT X e t) (q : t σ H Q) : ST X e σ H Q := fun pins s I => h.run pins s σ H Q I q
theorem SW.of {t : TT} {Q : Bool → Hp → Prop} (h : PW X e t) (q : t σ H Q) : SW X e σ H Q := fun wh pins s I => h.run wh pins s σ H Q I q
theorem SA.of {t : TA} {Q : List V → Hp → Prop} (h : PA X es t) (q : t σ H Q) : SA X es σ H Q := fun pos pins s I => h.run pos pins s σ H Q I q
theorem SS.of {t : TS} {D : Ends} (h : PS X st t) (q : t D σ H) : SS X st D σ H := fun pins s I => h.run pins s σ H D I q
theorem SSs.of {t : TS} {D : Ends} (h : PSs X sts t) (q : t D σ H) : SSs X sts D σ H := fun pins s I => h.run pins s σ H D I q
theorem SI.of {tg it : Expr} {t : TI} {R : It → Hp → Prop} (h : PI X tg it t) (q : t σ H R) : SI X tg it σ H R := fun pins s I => h.run pins s σ H R I q
theorem SG.of {tg : Expr} {t : TG} {v : V} {Q : L2.St → Hp → Prop} (h : PG X tg t) (q : t v σ H Q) : SG X tg v σ H Q := fun pins s u I r => h.run pins s σ H v u Q I r q
theorem SE.mono {Q Q' : VK} (h : SE X e σ H Q) (q : ∀ v H', Q v H' → Q' v H') : SE X e σ H Q' := fun pins s I => thn (h pins s I) fun u s' ⟨v, H', I', r, k⟩ => ⟨v, H', I', r, q v H' k⟩
theorem ST.mono {Q Q' : Bool → Hp → Prop} (h : ST X e σ H Q) (q : ∀ v H', Q v H' → Q' v H') : ST X e σ H Q' := fun pins s I => thn (h pins s I) fun u s' ⟨H', I', k⟩ => ⟨H', I', q _ H' k⟩
theorem SW.mono {Q Q' : Bool → Hp → Prop} (h : SW X e σ H Q) (q : ∀ v H', Q v H' → Q' v H') : SW X e σ H Q' := fun wh pins s I => thn (h wh pins s I) fun u s' ⟨H', I', k⟩ => ⟨H', I', q _ H' k⟩
theorem SA.mono {Q Q' : List V → Hp → Prop} (h : SA X es σ H Q) (q : ∀ v H', Q v H' → Q' v H') : SA X es σ H Q' := fun pos pins s I => thn (h pos pins s I) fun u s' ⟨v, H', I', r, k⟩ => ⟨v, H', I', r, q v H' k⟩
theorem SI.mono {tg it : Expr} {Q Q' : It → Hp → Prop} (h : SI X tg it σ H Q) (q : ∀ v H', Q v H' → Q' v H') : SI X tg it σ H Q' := fun pins s I => thn (h pins s I) fun u s' k => thn k fun w s2 ⟨a, fp, tn, J, H', e1, I', T, t0, f, r⟩ => ⟨a, fp, tn, J, H', e1, I', T, t0, f, q J H' r⟩
theorem SG.mono {tg : Expr} {v : V} {Q Q' : L2.St → Hp → Prop} (h : SG X tg v σ H Q) (q : ∀ v H', Q v H' → Q' v H') : SG X tg v σ H Q' := fun pins s u I r => thn (h pins s u I r) fun _ s' ⟨σ', H', I', k⟩ => ⟨σ', H', I', q σ' H' k⟩
theorem SP.imp {pins : List (Addr × Obj)} {E E' : Ends} {f : Flow} {s : Shared} (h : SP X pins E f s) (h1 : ∀ σ H, E.nx σ H → E'.nx σ H) (h2 : ∀ v H, E.rt v H → E'.rt v H) (h3 : ∀ σ H, E.bk σ H → E'.bk σ H) (h4 : ∀ σ H, E.ct σ H → E'.ct σ H) : SP X pins E' f s := by
  cases f with
  | next => obtain ⟨σ, H, I, q⟩ := h; exact ⟨σ, H, I, h1 _ _ q⟩
  | brk => obtain ⟨σ, H, I, q⟩ := h; exact ⟨σ, H, I, h3 _ _ q⟩
  | cont => obtain ⟨σ, H, I, q⟩ := h; exact ⟨σ, H, I, h4 _ _ q⟩
  | ret u => obtain ⟨v, σ, H, I, r, q⟩ := h; exact ⟨v, σ, H, I, r, h2 _ _ q⟩
theorem SS.mono {E E' : Ends} (h : SS X st E σ H) (h1 : ∀ σ H, E.nx σ H → E'.nx σ H) (h2 : ∀ v H, E.rt v H → E'.rt v H) (h3 : ∀ σ H, E.bk σ H → E'.bk σ H) (h4 : ∀ σ H, E.ct σ H → E'.ct σ H) : SS X st E' σ H := fun pins s I => thn (h pins s I) fun f s' q => SP.imp q h1 h2 h3 h4
theorem SSs.mono {E E' : Ends} (h : SSs X sts E σ H) (h1 : ∀ σ H, E.nx σ H → E'.nx σ H) (h2 : ∀ v H, E.rt v H → E'.rt v H) (h3 : ∀ σ H, E.bk σ H → E'.bk σ H) (h4 : ∀ σ H, E.ct σ H → E'.ct σ H) : SSs X sts E' σ H := fun pins s I => thn (h pins s I) fun f s' q => SP.imp q h1 h2 h3 h4
end


/-! ### the context over data: what is wished of an exception -/
abbrev XQ := Str → Option (Str × D) → Rn → Led → Prop
structure CD extends Cx where
  xq : XQ
instance : CoeOut CD Cx := ⟨CD.toCx⟩
/-- the field of an exception -/
def FdD (K : Frag) (F : Hp) (d : Option Addr) : Option (Str × D) → Prop
  | none => d = none
  | some (f, x) => ∃ (dd : Addr) (v : V), d = some dd ∧ F dd = some (.xd [(f, v)]) ∧ Den K F v x
/-- an exception of a class of the program, told over data -/
def WD (X : Cx) (F : Hp) (m : Led) (H : Hp) (q : XQ) : L2.WX := fun cls d σ H2 => ∃ (nm : Str) (C : Addr) (fd : Option (Str × D)) (ρ2 : Rn) (F2 : Hp) (m2 : Led),
  X.mg nm = some (.ref C) ∧ cls = .ref C ∧ Step X.K F m H F2 m2 H2 ∧ Env X F2 σ ρ2 ∧ FdD X.K F2 d fd ∧ q nm fd ρ2 m2
theorem WD.step {X : Cx} {F F1 H H1 : Hp} {m m1 : Led} {q : XQ} {cls : Value} {d : Option Addr} {σ : L2.St} {H2 : Hp} (s : Step X.K F m H F1 m1 H1) (h : WD X F1 m1 H1 q cls d σ H2) : WD X F m H q cls d σ H2 := by
  obtain ⟨nm, C, fd, ρ2, F2, m2, h1, h2, h3, h4⟩ := h
  exact ⟨nm, C, fd, ρ2, F2, m2, h1, h2, s.trans h3, h4⟩
structure AtX (X : CD) (F : Hp) (m : Led) (H : Hp) : Prop extends At X.K F m H where
  tk : L2.Takes X.toCx (WD X.toCx F m H X.xq)
  po : PassesOwn (model X.prog X.w) X.A X.env X.xe
structure StepX (X : CD) (F : Hp) (m : Led) (H : Hp) (F2 : Hp) (m2 : Led) (H2 : Hp) : Prop where
  st : Step X.K F m H F2 m2 H2
  tk2 : L2.Takes X.toCx (WD X.toCx F2 m2 H2 X.xq)
  po : PassesOwn (model X.prog X.w) X.A X.env X.xe
section
variable {X : CD} {F F1 F2 H H1 H2 : Hp} {m m1 m2 : Led}
instance : CoeOut (AtX X F m H) (At X.K F m H) := ⟨AtX.toAt⟩
instance : CoeOut (StepX X F m H F1 m1 H1) (Step X.K F m H F1 m1 H1) := ⟨StepX.st⟩
theorem StepX.at2 (s : StepX X F m H F1 m1 H1) : AtX X F1 m1 H1 := ⟨s.st.at2, s.tk2, s.po⟩
theorem StepX.ex (s : StepX X F m H F1 m1 H1) : Ex F F1 := s.st.ex
theorem AtX.step (a : AtX X F m H) (s : Step X.K F m H F1 m1 H1) : StepX X F m H F1 m1 H1 := ⟨s, a.tk.imp fun _ _ _ _ h => WD.step s h, a.po⟩
theorem AtX.to (a : AtX X F m H) (s : Step X.K F m H F1 m1 H1) : AtX X F1 m1 H1 := (a.step s).at2
theorem StepX.trans (a : StepX X F m H F1 m1 H1) (b : Step X.K F1 m1 H1 F2 m2 H2) : Step X.K F m H F2 m2 H2 := a.st.trans b
theorem StepX.refl (a : AtX X F m H) : StepX X F m H F m H := ⟨Step.refl a.toAt, a.tk, a.po⟩
/-- where nothing may be raised -/
theorem AtX.quiet {K0 : Cx} (a : At K0.K F m H) (hx : K0.xe = fun _ _ => False := by rfl) : AtX ⟨K0, fun _ _ _ _ => False⟩ F m H := ⟨a, fun u s' x => by
  obtain ⟨_, _, _, _, _, _, _, _, _, _, _, _, _, _, _, _, _, _, _, _, _, _, _, _, _, _, _, z⟩ := x
  exact z.elim, by
  show PassesOwn (model K0.prog K0.w) K0.A K0.env K0.xe
  rw [hx]
  exact PassesOwn.never⟩
end

/-! ### the judgements over data -/
section
variable (K : Frag) (F : Hp) (m : Led) (H : Hp)
def PQ (R : D → Led → Prop) : VK := fun v H2 => ∃ d F2 m2, Step K F m H F2 m2 H2 ∧ Den K F2 v d ∧ R d m2
def PB (R : Bool → Led → Prop) : Bool → Hp → Prop := fun b H2 => ∃ F2 m2, Step K F m H F2 m2 H2 ∧ R b m2
def PL (R : List D → Led → Prop) : List V → Hp → Prop := fun vs H2 => ∃ ds F2 m2, Step K F m H F2 m2 H2 ∧ Dens K F2 vs ds ∧ R ds m2
end
structure EndsD where
  nx : Rn → Led → Prop
  rt : D → Led → Prop
  bk : Rn → Led → Prop := fun _ _ => False
  ct : Rn → Led → Prop := fun _ _ => False
def PN (X : CD) (F : Hp) (m : Led) (H : Hp) (R : Rn → Led → Prop) : L2.St → Hp → Prop := fun σ2 H2 => ∃ ρ2 F2 m2, Step X.K F m H F2 m2 H2 ∧ Env X F2 σ2 ρ2 ∧ R ρ2 m2
def ED (X : CD) (F : Hp) (m : Led) (H : Hp) (E : EndsD) : Ends := { nx := PN X F m H E.nx, rt := PQ X.K F m H E.rt, bk := PN X F m H E.bk, ct := PN X F m H E.ct }
structure EX (X : CD) (e : Expr) (ρ : Rn) (m : Led) (R : D → Led → Prop) : Prop where
  run : ∀ F σ H, Env X F σ ρ → AtX X F m H → SE X e σ H (PQ X.K F m H R)
structure TX (X : CD) (e : Expr) (ρ : Rn) (m : Led) (R : Bool → Led → Prop) : Prop where
  run : ∀ F σ H, Env X F σ ρ → AtX X F m H → ST X e σ H (PB X.K F m H R)
structure WX (X : CD) (e : Expr) (ρ : Rn) (m : Led) (R : Bool → Led → Prop) : Prop where
  run : ∀ F σ H, Env X F σ ρ → AtX X F m H → SW X e σ H (PB X.K F m H R)
structure AX (X : CD) (es : List Expr) (ρ : Rn) (m : Led) (R : List D → Led → Prop) : Prop where
  run : ∀ F σ H, Env X F σ ρ → AtX X F m H → SA X es σ H (PL X.K F m H R)
structure S1 (X : CD) (st : Stmt) (ρ : Rn) (m : Led) (E : EndsD) : Prop where
  run : ∀ F σ H, Env X F σ ρ → AtX X F m H → SS X st (ED X F m H E) σ H
structure SX (X : CD) (st : List Stmt) (ρ : Rn) (m : Led) (E : EndsD) : Prop where
  run : ∀ F σ H, Env X F σ ρ → AtX X F m H → SSs X st (ED X F m H E) σ H
structure GX (X : CD) (tg : Expr) (d : D) (ρ : Rn) (m : Led) (R : Rn → Led → Prop) : Prop where
  run : ∀ F σ H v, Env X F σ ρ → AtX X F m H → Den X.K F v d → SG X tg v σ H (PN X F m H R)
/-- what an iterator gives: the items ds, one by one -/
def YD (K : Frag) (F1 : Hp) (ds : List D) (i : Nat) (H2 : Hp) (x : V) (H3 : Hp) : Prop := ∀ F2 m2, Ex F1 F2 → At K F2 m2 H2 → ∃ F3 d, ds[i]? = some d ∧ Step K F2 m2 H2 F3 m2 H3 ∧ Den K F3 x d
structure IX (X : CD) (tg it : Expr) (ρ : Rn) (m : Led) (R : List D → Led → Prop) : Prop where
  run : ∀ F σ H, Env X F σ ρ → AtX X F m H →
  SI X tg it σ H fun J H1 => ∃ ds F1 m1, Step X.K F m H F1 m1 H1 ∧ R ds m1 ∧ Walk J ds.length (fun H2 => Ex F1 H2) (YD X.K F1 ds)
/-- an operation on data -/
structure OX (X : CD) (f : Value → Value → Sem Value) (d1 d2 : D) (m : Led) (R : D → Led → Prop) : Prop where
  run : ∀ F σ H x y pins s v u, Den X.K F x d1 → Den X.K F y d2 → AtX X F m H → Inv X pins σ H s → RelV x v → RelV y u →
  wpAny (model X.prog X.w) X.A (f v u) (EP X pins σ (PQ X.K F m H R)) X.xe s
structure UX (X : CD) (f : Value → Sem Value) (d1 : D) (m : Led) (R : D → Led → Prop) : Prop where
  run : ∀ F σ H x pins s v, Den X.K F x d1 → AtX X F m H → Inv X pins σ H s → RelV x v →
  wpAny (model X.prog X.w) X.A (f v) (EP X pins σ (PQ X.K F m H R)) X.xe s
structure BX (X : CD) (f : Value) (ds : List D) (m : Led) (R : D → Led → Prop) : Prop where
  run : ∀ F σ H xs pins s us, Dens X.K F xs ds → AtX X F m H → Inv X pins σ H s → Vals xs us →
  wpAny (model X.prog X.w) X.A (call f us) (EP X pins σ (PQ X.K F m H R)) X.xe s
section
variable {X : CD} {K : Frag} {F F1 F2 H H1 H2 : Hp} {m m1 m2 : Led} {σ : L2.St} {ρ : Rn}
theorem PQ.step {R : D → Led → Prop} {v : V} (a : Step K F m H F1 m1 H1) (h : PQ K F1 m1 H1 R v H2) : PQ K F m H R v H2 := let ⟨d, F2, m2, s, q, r⟩ := h; ⟨d, F2, m2, a.trans s, q, r⟩
theorem PB.step {R : Bool → Led → Prop} {v : Bool} (a : Step K F m H F1 m1 H1) (h : PB K F1 m1 H1 R v H2) : PB K F m H R v H2 := let ⟨F2, m2, s, r⟩ := h; ⟨F2, m2, a.trans s, r⟩
theorem PL.step {R : List D → Led → Prop} {v : List V} (a : Step K F m H F1 m1 H1) (h : PL K F1 m1 H1 R v H2) : PL K F m H R v H2 := let ⟨d, F2, m2, s, q, r⟩ := h; ⟨d, F2, m2, a.trans s, q, r⟩
theorem PN.step {R : Rn → Led → Prop} (a : Step X.K F m H F1 m1 H1) (h : PN X F1 m1 H1 R σ H2) : PN X F m H R σ H2 := let ⟨d, F2, m2, s, q, r⟩ := h; ⟨d, F2, m2, a.trans s, q, r⟩
theorem PQ.now {R : D → Led → Prop} {v : V} {d : D} (a : At K F m H) (q : Den K F v d) (r : R d m) : PQ K F m H R v H := ⟨d, F, m, Step.refl a, q, r⟩
theorem SS.step {st : Stmt} {E : EndsD} (a : Step X.K F m H F1 m1 H1) (h : SS X st (ED X F1 m1 H1 E) σ H2) : SS X st (ED X F m H E) σ H2 := h.mono (fun _ _ q => PN.step a q) (fun _ _ q => PQ.step a q) (fun _ _ q => PN.step a q) fun _ _ q => PN.step a q
theorem SSs.step {st : List Stmt} {E : EndsD} (a : Step X.K F m H F1 m1 H1) (h : SSs X st (ED X F1 m1 H1 E) σ H2) : SSs X st (ED X F m H E) σ H2 := h.mono (fun _ _ q => PN.step a q) (fun _ _ q => PQ.step a q) (fun _ _ q => PN.step a q) fun _ _ q => PN.step a q
/-- going on from a judgement -/
theorem EX.go {e : Expr} {R : D → Led → Prop} {Q : VK} (h : EX X e ρ m R) (en : Env X F σ ρ) (a : AtX X F m H) (k : ∀ v d F1 m1 H1, StepX X F m H F1 m1 H1 → Env X F1 σ ρ → Den X.K F1 v d → R d m1 → Q v H1) : SE X e σ H Q :=
  (h.run F σ H en a).mono fun v H1 ⟨d, F1, m1, s, q, r⟩ => k v d F1 m1 H1 (a.step s) (en.mono s.ex) q r
theorem AX.go {es : List Expr} {R : List D → Led → Prop} {Q : List V → Hp → Prop} (h : AX X es ρ m R) (en : Env X F σ ρ) (a : AtX X F m H) (k : ∀ v d F1 m1 H1, StepX X F m H F1 m1 H1 → Env X F1 σ ρ → Dens X.K F1 v d → R d m1 → Q v H1) : SA X es σ H Q :=
  (h.run F σ H en a).mono fun v H1 ⟨d, F1, m1, s, q, r⟩ => k v d F1 m1 H1 (a.step s) (en.mono s.ex) q r
theorem TX.go {e : Expr} {R : Bool → Led → Prop} {Q : Bool → Hp → Prop} (h : TX X e ρ m R) (en : Env X F σ ρ) (a : AtX X F m H) (k : ∀ b F1 m1 H1, StepX X F m H F1 m1 H1 → Env X F1 σ ρ → R b m1 → Q b H1) : ST X e σ H Q :=
  (h.run F σ H en a).mono fun b H1 ⟨F1, m1, s, r⟩ => k b F1 m1 H1 (a.step s) (en.mono s.ex) r
theorem EX.mono {e : Expr} {R R' : D → Led → Prop} (h : EX X e ρ m R) (q : ∀ d m', R d m' → R' d m') : EX X e ρ m R' := .mk fun F σ H en a => (h.run F σ H en a).mono fun v H1 ⟨d, F1, m1, s, k, r⟩ => ⟨d, F1, m1, s, k, q d m1 r⟩
theorem TX.mono {e : Expr} {R R' : Bool → Led → Prop} (h : TX X e ρ m R) (q : ∀ d m', R d m' → R' d m') : TX X e ρ m R' := .mk fun F σ H en a => (h.run F σ H en a).mono fun v H1 ⟨F1, m1, s, r⟩ => ⟨F1, m1, s, q v m1 r⟩
theorem SX.mono {sts : List Stmt} {E E' : EndsD} (h : SX X sts ρ m E) (h1 : ∀ ρ m, E.nx ρ m → E'.nx ρ m) (h2 : ∀ d m, E.rt d m → E'.rt d m) (h3 : ∀ ρ m, E.bk ρ m → E'.bk ρ m) (h4 : ∀ ρ m, E.ct ρ m → E'.ct ρ m) : SX X sts ρ m E' := .mk fun F σ H en a =>
  (h.run F σ H en a).mono (fun σ H ⟨ρ, F2, m2, s, e, r⟩ => ⟨ρ, F2, m2, s, e, h1 _ _ r⟩) (fun v H ⟨d, F2, m2, s, e, r⟩ => ⟨d, F2, m2, s, e, h2 _ _ r⟩) (fun σ H ⟨ρ, F2, m2, s, e, r⟩ => ⟨ρ, F2, m2, s, e, h3 _ _ r⟩) (fun σ H ⟨ρ, F2, m2, s, e, r⟩ => ⟨ρ, F2, m2, s, e, h4 _ _ r⟩)
end

/-! ### rules for expressions -/
section
variable {X : CD} {e a b c : Expr} {es : List Expr} {ρ : Rn} {m : Led} {R : D → Led → Prop} {pos : Pos}
theorem x_var {i : Nat} {x : Str} {d : D} (h : LookAt ρ i x d) (k : R d m) (hv : Vis X.env.scope x := by first | exact Or.inl rfl | exact Or.inr (Or.inl rfl) | exact Or.inr (Or.inr rfl)) (hd : (x == ("__debug__" : Str)) = false := by decide)
    (hcd : (x == ("__classdict__" : Str)) = false := by decide) : EX X (.Name x pos) ρ m R := .mk fun F σ H en at_ => by
  obtain ⟨hN, v, hs, q⟩ := en.look h
  exact SE.of (pe_var hN hv hd hcd) ⟨v, hs, PQ.now at_ q k⟩
theorem x_int {i : Int} {j : Nat} (k : R (.int i) m) : EX X (.Constant (.int i) j pos) ρ m R := .mk fun F σ H en at_ => SE.of pe_int (PQ.now at_ (.int i) k)
theorem x_bl {i : Bool} {j : Nat} (k : R (.bl i) m) : EX X (.Constant (.bool i) j pos) ρ m R := .mk fun F σ H en at_ => SE.of pe_bl (PQ.now at_ (.bl i) k)
theorem x_non {j : Nat} (k : R .non m) : EX X (.Constant .none j pos) ρ m R := .mk fun F σ H en at_ => SE.of pe_non (PQ.now at_ .non k)
theorem x_str {x : Str} {j : Nat} (k : R (.str x) m) : EX X (.Constant (.str x) j pos) ρ m R := .mk fun F σ H en at_ => SE.of pe_str (PQ.now at_ (.str x) k)
/-- a constant of the module -/
def GC (K : Frag) (mg : Str → Option Value) (x : Str) (d : D) : Prop := ∃ v u, mg x = some u ∧ RelV v u ∧ ∀ F, Den K F v d
theorem x_glob {x : Str} {d : D} (hg : GC X.K X.mg x d) (k : R d m) (h : Gl X x := by rfl) (hd : (x == ("__debug__" : Str)) = false := by decide) : EX X (.Name x pos) ρ m R := .mk fun F σ H en at_ => by
  obtain ⟨v, u, hm, r, q⟩ := hg
  exact SE.of (pe_glob h hm r hd) (PQ.now at_ (q F) k)
/-- a built-in class as a value -/
theorem x_ty {x : Str} {n : String} (k : R (.ty n) m) (hm : X.mg x = none) (hv : bootBuiltins x = some (.type n) := by decide +kernel) (h : Gl X x := by rfl) (hn : x ≠ "__name__" := by decide) (hd : (x == ("__debug__" : Str)) = false := by decide) : EX X (.Name x pos) ρ m R := .mk fun F σ H en at_ =>
  SE.of (pe_bltn (v := .ty n) h hm hv rfl hn hd) (PQ.now at_ (.ty n) k)
theorem x_bin {op : Operator} (h : EX X a ρ m fun d1 m1 => EX X b ρ m1 fun d2 m2 => OX X (binaryOp op) d1 d2 m2 R) : EX X (.BinOp a op b pos) ρ m R := .mk fun F σ H en at_ => by
  intro pins s I
  refine wpAny_BinOp (binT (R := fun x y H2 => ∃ d1 d2 F2 m2, Step X.K F m H F2 m2 H2 ∧ Den X.K F2 x d1 ∧ Den X.K F2 y d2 ∧ OX X (binaryOp op) d1 d2 m2 R) (pe_SE (e := a)) (pe_SE (e := b)) I ?_ ?_)
  · exact h.go en at_ fun v d F1 m1 H1 s1 en1 q1 r1 => r1.go en1 s1.at2 fun v2 d2 F2 m2 H2 s2 en2 q2 r2 => ⟨d, d2, F2, m2, s1.trans s2, q1.mono s2.ex, q2, r2⟩
  · intro v u s2 x y H2 I2 rx ry ⟨d1, d2, F2, m2, st, q1, q2, r⟩
    exact thn (r.run F2 σ H2 x y pins s2 v u q1 q2 (at_.to st) I2 rx ry) fun w s3 ⟨v3, H3, I3, r3, k⟩ => ⟨v3, H3, I3, r3, PQ.step st k⟩
theorem x_un {op : UnaryOp} (h : EX X a ρ m fun d1 m1 => UX X (unaryOp op) d1 m1 R) : EX X (.UnaryOp op a pos) ρ m R := .mk fun F σ H en at_ => by
  intro pins s I
  refine UnaryOp_ (thn (h.run F σ H en at_ pins s I) fun v s1 ⟨x, H1, I1, r1, d, F1, m1, st, q, k⟩ => ?_)
  exact thn (UX.run k F1 σ H1 x pins s1 v q (at_.to st) I1 r1) fun w s3 ⟨v3, H3, I3, r3, k⟩ => ⟨v3, H3, I3, r3, PQ.step st k⟩
theorem x_cmp {op : CmpOp} (h : EX X a ρ m fun d1 m1 => EX X b ρ m1 fun d2 m2 => OX X (compareOp op) d1 d2 m2 R) (hm : behindInMarks op b = false := by first | exact nobehind _ (by decide) (by decide) | rfl | with_unfolding_all rfl) : EX X (.Compare a [op] [b] pos) ρ m R := .mk fun F σ H en at_ => by
  intro pins s I
  refine wpAny_Compare1 (binT (R := fun x y H2 => ∃ d1 d2 F2 m2, Step X.K F m H F2 m2 H2 ∧ Den X.K F2 x d1 ∧ Den X.K F2 y d2 ∧ OX X (compareOp op) d1 d2 m2 R) (pe_SE (e := a)) (pe_SE (e := b)) I ?_ ?_) hm
  · exact h.go en at_ fun v d F1 m1 H1 s1 en1 q1 r1 => r1.go en1 s1.at2 fun v2 d2 F2 m2 H2 s2 en2 q2 r2 => ⟨d, d2, F2, m2, s1.trans s2, q1.mono s2.ex, q2, r2⟩
  · intro v u s2 x y H2 I2 rx ry ⟨d1, d2, F2, m2, st, q1, q2, r⟩
    exact thn (r.run F2 σ H2 x y pins s2 v u q1 q2 (at_.to st) I2 rx ry) fun w s3 ⟨v3, H3, I3, r3, k⟩ => ⟨v3, H3, I3, r3, PQ.step st k⟩
/-- a comparison as a test -/
theorem t_cmp {op : CmpOp} {R : Bool → Led → Prop} (h : EX X a ρ m fun d1 m1 => EX X b ρ m1 fun d2 m2 => OX X (compareOp op) d1 d2 m2 fun d m3 => ∃ k, d = .bl k ∧ R k m3) (hm : behindInMarks op b = false := by first | exact nobehind _ (by decide) (by decide) | rfl | with_unfolding_all rfl) : TX X (.Compare a [op] [b] pos) ρ m R := .mk fun F σ H en at_ => by
  intro pins s I
  refine wpAny_isTrue_Compare1 ?_ hm
  refine binT (R := fun x y H2 => ∃ d1 d2 F2 m2, Step X.K F m H F2 m2 H2 ∧ Den X.K F2 x d1 ∧ Den X.K F2 y d2 ∧ OX X (compareOp op) d1 d2 m2 fun d m3 => ∃ k, d = .bl k ∧ R k m3) (f := fun v u => compareOp op v u) (Q := fun c s3 => wpAny (model X.prog X.w) X.A (truthy c) (TP X pins σ (PB X.K F m H R)) X.xe s3) (pe_SE (e := a)) (pe_SE (e := b)) I ?_ ?_
  · exact h.go en at_ fun v d F1 m1 H1 s1 en1 q1 r1 => r1.go en1 s1.at2 fun v2 d2 F2 m2 H2 s2 en2 q2 r2 => ⟨d, d2, F2, m2, s1.trans s2, q1.mono s2.ex, q2, r2⟩
  · intro v u s2 x y H2 I2 rx ry ⟨d1, d2, F2, m2, st, q1, q2, r⟩
    refine thn (r.run F2 σ H2 x y pins s2 v u q1 q2 (at_.to st) I2 rx ry) fun w s3 ⟨v3, H3, I3, r3, d, F3, m3, st3, q3, kk, ek, k⟩ => ?_
    subst ek
    cases q3
    cases r3
    exact wpAny_truthy_bool ⟨H3, I3, F3, m3, st.trans st3, k⟩
/-- truth of data -/
def TruD (m : Led) (d : D) (k : Bool) : Prop := match d with
  | .non => k = false
  | .bl b => k = b
  | .int i => k = (i != 0)
  | .str y => y.length ≤ sizeLine ∧ k = ((y.length : Int) != 0)
  | .lst xs => k = !xs.isEmpty
  | .tup xs => k = !xs.isEmpty
  | .ref a => ∃ (i : Nat) (ds : List D), m[i]? = some (a, .lst ds) ∧ k = !ds.isEmpty
  | _ => False
theorem Dens.empty {K : Frag} {F : Hp} {xs : List V} {ds : List D} (h : Dens K F xs ds) : xs.isEmpty = ds.isEmpty := by cases h <;> rfl
theorem TruD.v {K : Frag} {F H : Hp} {d : D} {k : Bool} {v : V} (h : TruD m d k) (q : Den K F v d) (at_ : At K F m H) : TruV K v H k := by
  cases q with
  | non => exact h
  | bl b => exact h
  | int i => exact h
  | str x => exact h
  | ty n => exact h
  | lst h1 hs => exact .inl ⟨_, .inl (at_.sub.rd h1), by rw [hs.empty]; exact h⟩
  | tup h1 hs => exact .inr (.inl ⟨_, at_.sub.sqT h1, by rw [hs.empty]; exact h⟩)
  | lsk => exact h.elim
  | dI => exact h.elim
  | dK => exact h.elim
  | dO => exact h.elim
  | obj => exact h.elim
  | exc => exact h.elim
  | cls => exact h.elim
  | ref a =>
    obtain ⟨i, ds, hi, e⟩ := h
    obtain ⟨hh, ⟨xs, rfl, hs⟩, e2⟩ := at_.get hi
    exact .inl ⟨xs, .inl (.inl e2), by rw [hs.empty]; exact e⟩
theorem t_tru {R : Bool → Led → Prop} (h : EX X a ρ m fun d m1 => ∃ k, TruD m1 d k ∧ R k m1) (he : ∀ whole, isTrue a X.env whole = (do let v ← whole; standAt a.pos; holding [v] (truthy v)) := by intro _; rfl) : TX X a ρ m R := .mk fun F σ H en at_ =>
  ST.of (pt_truth (pe_SE (e := a)) he) (h.go en at_ fun v d F1 m1 H1 s1 en1 q1 ⟨k, tk, r⟩ => ⟨k, tk.v q1 s1.at2, F1, m1, s1, r⟩)
theorem t_not {R : Bool → Led → Prop} (h : TX X a ρ m fun k m1 => R (!k) m1) : TX X (.UnaryOp .Not a pos) ρ m R := .mk fun F σ H en at_ =>
  ST.of (pt_not (pt_ST (e := a))) (h.run F σ H en at_)
theorem w_and1 {R : Bool → Led → Prop} (h : TX X a ρ m R) : WX X (.BoolOp .And [a] pos) ρ m R := .mk fun F σ H en at_ => SW.of (pw_and1 (pt_ST (e := a))) (h.run F σ H en at_)
theorem w_or1 {R : Bool → Led → Prop} (h : TX X a ρ m R) : WX X (.BoolOp .Or [a] pos) ρ m R := .mk fun F σ H en at_ => SW.of (pw_or1 (pt_ST (e := a))) (h.run F σ H en at_)
theorem w_and {R : Bool → Led → Prop} {rest : List Expr} (h : TX X a ρ m fun k m1 => (k = true → WX X (.BoolOp .And (b :: rest) pos) ρ m1 R) ∧ (k = false → R false m1)) : WX X (.BoolOp .And (a :: b :: rest) pos) ρ m R := .mk fun F σ H en at_ =>
  SW.of (pw_and (pt_ST (e := a)) (pw_SW (e := .BoolOp .And (b :: rest) pos))) (h.go en at_ fun k F1 m1 H1 s1 en1 r => by
    cases k with
    | true => exact ((r.1 rfl).run F1 σ H1 en1 s1.at2).mono fun v H' q => PB.step s1 q
    | false => exact ⟨F1, m1, s1, r.2 rfl⟩)
theorem w_or {R : Bool → Led → Prop} {rest : List Expr} (h : TX X a ρ m fun k m1 => (k = true → R true m1) ∧ (k = false → WX X (.BoolOp .Or (b :: rest) pos) ρ m1 R)) : WX X (.BoolOp .Or (a :: b :: rest) pos) ρ m R := .mk fun F σ H en at_ =>
  SW.of (pw_or (pt_ST (e := a)) (pw_SW (e := .BoolOp .Or (b :: rest) pos))) (h.go en at_ fun k F1 m1 H1 s1 en1 r => by
    cases k with
    | true => exact ⟨F1, m1, s1, r.1 rfl⟩
    | false => exact ((r.2 rfl).run F1 σ H1 en1 s1.at2).mono fun v H' q => PB.step s1 q)
theorem t_w {R : Bool → Led → Prop} (h : WX X a ρ m R) : TX X a ρ m R := .mk fun F σ H en at_ pins s I => h.run F σ H en at_ _ pins s I
/-- and, or as values: bools ahead of the last -/
theorem x_one {op : BoolOp} (h : EX X a ρ m R) : EX X (.BoolOp op [a] pos) ρ m R := .mk fun F σ H en at_ => SE.of (pe_one (pe_SE (e := a))) (h.run F σ H en at_)
theorem x_and {rest : List Expr} (h : EX X a ρ m fun d m1 => ∃ k, d = .bl k ∧ (k = true → EX X (.BoolOp .And (b :: rest) pos) ρ m1 R) ∧ (k = false → R (.bl false) m1)) : EX X (.BoolOp .And (a :: b :: rest) pos) ρ m R := .mk fun F σ H en at_ =>
  SE.of (pe_and (pe_SE (e := a)) (pe_SE (e := .BoolOp .And (b :: rest) pos))) (h.go en at_ fun v d F1 m1 H1 s1 en1 q ⟨k, ek, r⟩ => by
    subst ek
    cases q
    refine ⟨k, rfl, ?_⟩
    cases k with
    | true => exact ((r.1 rfl).run F1 σ H1 en1 s1.at2).mono fun v H' q => PQ.step s1 q
    | false => exact ⟨_, F1, m1, s1, .bl false, r.2 rfl⟩)
theorem x_not (h : EX X a ρ m fun d m1 => ∃ k, d = .bl k ∧ R (.bl (!k)) m1) : EX X (.UnaryOp .Not a pos) ρ m R := .mk fun F σ H en at_ =>
  SE.of (pe_not (pe_SE (e := a))) (h.go en at_ fun v d F1 m1 H1 s1 en1 q ⟨k, ek, r⟩ => by
    subst ek
    cases q
    exact ⟨k, rfl, _, F1, m1, s1, .bl _, r⟩)
theorem a_nil {R : List D → Led → Prop} (k : R [] m) : AX X [] ρ m R := .mk fun F σ H en at_ => SA.of pa_nil ⟨[], F, m, Step.refl at_, .nil, k⟩
theorem a_cons {R : List D → Led → Prop} (h : EX X e ρ m fun d m1 => AX X es ρ m1 fun ds m2 => R (d :: ds) m2) (hs : starEach (e :: es) X.env = (false, eval e X.env) :: starEach es X.env := by rfl) : AX X (e :: es) ρ m R := .mk fun F σ H en at_ =>
  SA.of (pa_cons (pe_SE (e := e)) (pa_SA (es := es)) hs) (h.go en at_ fun v d F1 m1 H1 s1 en1 q r => r.go en1 s1.at2 fun vs ds F2 m2 H2 s2 en2 q2 r2 => ⟨d :: ds, F2, m2, s1.trans s2, .cons (q.mono s2.ex) q2, r2⟩)
theorem x_tup {x1 : Nat} (h : AX X es ρ m fun ds m1 => ds.length ≤ 100000 ∧ R (.tup ds) m1) : EX X (.Tuple es x1 pos) ρ m R := .mk fun F σ H en at_ =>
  SE.of (pe_tup (pa_SA (es := es))) (h.go en at_ fun vs ds F1 m1 H1 s1 en1 q r => ⟨by rw [q.length]; exact Nat.le_trans r.1 (by decide), fun p hp =>
    have nw := Step.new (o := .tup vs) s1.at2 hp
    ⟨.tup ds, _, _, s1.trans nw, .tup (.inl (.inl upd_same)) (q.mono nw.ex), r.2⟩⟩)
theorem x_lst (h : AX X es ρ m fun ds m1 => ds.length ≤ 100000 ∧ R (.lst ds) m1) : EX X (.List es pos) ρ m R := .mk fun F σ H en at_ =>
  SE.of (pe_lst (pa_SA (es := es))) (h.go en at_ fun vs ds F1 m1 H1 s1 en1 q r => ⟨by rw [q.length]; exact Nat.le_trans r.1 (by decide), fun p hp =>
    have nw := Step.new (o := .lst vs) s1.at2 hp
    ⟨.lst ds, _, _, s1.trans nw, .lst (.inl upd_same) (q.mono nw.ex), r.2⟩⟩)
/-- a list that is to be changed -/
theorem x_lstM (h : AX X es ρ m fun ds m1 => ds.length ≤ 100000 ∧ ∀ p, R (.ref p) (m1 ++ [(p, .lst ds)])) : EX X (.List es pos) ρ m R := .mk fun F σ H en at_ =>
  SE.of (pe_lst (pa_SA (es := es))) (h.go en at_ fun vs ds F1 m1 H1 s1 en1 q r => ⟨by rw [q.length]; exact Nat.le_trans r.1 (by decide), fun p hp =>
    have nw := Step.newM (o := .lst vs) (mo := .lst ds) s1.at2 hp ⟨vs, rfl, q⟩
    ⟨.ref p, _, _, s1.trans nw, .ref p, r.2 p⟩⟩)
end
end DL


namespace DL
open PySem PySem.Spec PyProof.Rows L2

/-! ### operations on ints -/
section
variable {X : CD} {f : Value → Value → Sem Value} {d1 d2 : D} {m : Led} {R : D → Led → Prop} {i j : Int}
theorem OX.of {r : R2} (ho : OpR X f r) (h : ∀ F H x y, Den X.K F x d1 → Den X.K F y d2 → AtX X F m H → r x y H (PQ X.K F m H R)) : OX X f d1 d2 m R := .mk fun F σ H x y pins s v u q1 q2 at_ I rx ry => ho pins s σ H x y v u _ I rx ry (h F H x y q1 q2 at_)
theorem UX.of {f : Value → Sem Value} {r : V → Hp → VK → Prop} (ho : UnR X f r) (h : ∀ F H x, Den X.K F x d1 → AtX X F m H → r x H (PQ X.K F m H R)) : UX X f d1 m R := .mk fun F σ H x pins s v q1 at_ I rx => ho pins s σ H x v _ I rx (h F H x q1 at_)
theorem BX.of {f : Value} {ds : List D} {r : List V → Hp → VK → Prop} (ho : CallR X f r) (h : ∀ F H xs, Dens X.K F xs ds → AtX X F m H → r xs H (PQ X.K F m H R)) : BX X f ds m R := .mk fun F σ H xs pins s us q at_ I rs => ho pins s σ H xs us _ I rs (h F H xs q at_)
theorem Den.int_inv {K : Frag} {F : Hp} {v : V} (h : Den K F v (.int i)) : v = .int i := by cases h; rfl
theorem Den.str_inv {K : Frag} {F : Hp} {v : V} {x : Str} (h : Den K F v (.str x)) : v = .str x := by cases h; rfl
theorem Den.bl_inv {K : Frag} {F : Hp} {v : V} {x : Bool} (h : Den K F v (.bl x)) : v = .bl x := by cases h; rfl
theorem OX.i0 {g : Int → Int → V} {d : D} (ho : OpR X f (rI0 g)) (hd : ∀ F, Den X.K F (g i j) d) (k : R d m) : OX X f (.int i) (.int j) m R := OX.of ho fun F H x y q1 q2 at_ => ⟨i, j, q1.int_inv, q2.int_inv, PQ.now at_ (hd F) k⟩
theorem OX.ic {C : Int → Int → Prop} {g : Int → Int → V} {d : D} (ho : OpR X f (rI C g)) (hc : C i j) (hd : ∀ F, Den X.K F (g i j) d) (k : R d m) : OX X f (.int i) (.int j) m R := OX.of ho fun F H x y q1 q2 at_ => ⟨i, j, q1.int_inv, q2.int_inv, hc, PQ.now at_ (hd F) k⟩
theorem o_add (k : R (.int (i + j)) m) : OX X (binaryOp .Add) (.int i) (.int j) m R := OX.i0 op_add (fun _ => .int _) k
theorem o_sub (k : R (.int (i - j)) m) : OX X (binaryOp .Sub) (.int i) (.int j) m R := OX.i0 op_sub (fun _ => .int _) k
theorem op_mulG : OpR X (binaryOp .Mult) (rI IntMulOk fun i j => .int (i * j)) := opI fun _ _ _ _ _ _ _ hc q => mul_int q hc
theorem o_mul (h : IntMulOk i j) (k : R (.int (i * j)) m) : OX X (binaryOp .Mult) (.int i) (.int j) m R := OX.ic op_mulG h (fun _ => .int _) k
def CDivG (_ j : Int) : Prop := j ≠ 0 ∧ j.natAbs.log2 < 9000
theorem op_fdivG : OpR X (binaryOp .FloorDiv) (rI CDivG fun i j => .int (i.fdiv j)) := opI fun _ _ _ _ _ _ _ hc q => floordiv_int hc.1 q (.inl (PyProof.noPylong_of_log2 hc.2))
theorem o_fdivN (h : CDivG i j) (k : R (.int (i.fdiv j)) m) : OX X (binaryOp .FloorDiv) (.int i) (.int j) m R := OX.ic op_fdivG h (fun _ => .int _) k
theorem o_modN (h : j ≠ 0) (k : R (.int (i.fmod j)) m) : OX X (binaryOp .Mod) (.int i) (.int j) m R := OX.ic op_modN h (fun _ => .int _) k
theorem o_pow (h : CPow i j) (k : R (.int (i ^ j.toNat)) m) : OX X (binaryOp .Pow) (.int i) (.int j) m R := OX.ic op_pow h (fun _ => .int _) k
theorem o_lt (k : R (.bl (decide (i < j))) m) : OX X (compareOp .Lt) (.int i) (.int j) m R := OX.i0 op_lt (fun _ => .bl _) k
theorem o_le (k : R (.bl (decide (i ≤ j))) m) : OX X (compareOp .LtE) (.int i) (.int j) m R := OX.i0 op_le (fun _ => .bl _) k
theorem o_gt (k : R (.bl (decide (j < i))) m) : OX X (compareOp .Gt) (.int i) (.int j) m R := OX.i0 op_gt (fun _ => .bl _) k
theorem o_ge (k : R (.bl (decide (j ≤ i))) m) : OX X (compareOp .GtE) (.int i) (.int j) m R := OX.i0 op_ge (fun _ => .bl _) k
theorem u_neg (k : R (.int (-i)) m) : UX X (unaryOp .USub) (.int i) m R := UX.of un_neg fun F H x q at_ => ⟨i, q.int_inv, PQ.now at_ (.int _) k⟩
/-- is None -/
def isN : D → Bool
  | .non => true
  | _ => false
theorem Den.isN {K : Frag} {F : Hp} {v : V} {d : D} (h : Den K F v d) : decide (v = .non) = isN d := by cases h <;> rfl
theorem Den.non_inv {K : Frag} {F : Hp} {v : V} (h : Den K F v .non) : v = .non := by cases h; rfl
theorem o_isN (k : R (.bl (isN d1)) m) : OX X (compareOp .Is) d1 .non m R := OX.of op_isN fun F H a b q1 q2 at_ => ⟨q2.non_inv, by rw [q1.isN]; exact PQ.now at_ (.bl _) k⟩
theorem o_notN (k : R (.bl (!isN d1)) m) : OX X (compareOp .IsNot) d1 .non m R := OX.of op_notN fun F H a b q1 q2 at_ => ⟨q2.non_inv, by rw [q1.isN]; exact PQ.now at_ (.bl _) k⟩

/-! ### lists -/
theorem op_catG : OpR X (binaryOp .Add) (fun x y H Q => ∃ l b xs zs, x = .ref l ∧ y = .ref b ∧ Rd H l (.lst xs) ∧ Rd H b (.lst zs) ∧ xs.length + zs.length ≤ sizeLine ∧ ∀ p, H p = none → Q (.ref p) (upd H p (.lst (xs ++ zs)))) := by
  intro pins s σ H x y v u Q I rx ry h
  obtain ⟨l, b, xs, zs, rfl, rfl, hH, hB, hz, q⟩ := h
  cases rx
  cases ry
  obtain ⟨z, its, n, r, e⟩ := hH.ok I.hok
  obtain ⟨z2, its2, n2, r2, e2⟩ := hB.ok I.hok
  have hl := r.length
  have hl2 := r2.length
  refine PySem.P.add_list e e2 ?_ (by rw [List.size_toArray, List.size_toArray]; omega)
  have ea : its.toArray ++ its2.toArray = (its ++ its2).toArray := by simp
  rw [ea]
  exact ⟨.ref _, _, I.lnew (t' := s.toks) (r.append r2) (by rw [List.length_append]; omega), rfl, q _ I.fresh⟩
theorem new_lst {K : Frag} {F H : Hp} {m : Led} {p : Addr} {xs : List V} {ds : List D} {R : D → Led → Prop} (at_ : At K F m H) (hp : H p = none) (hs : Dens K F xs ds) (k : R (.lst ds) m) : PQ K F m H R (.ref p) (upd H p (.lst xs)) :=
  have nw := Step.new (o := .lst xs) at_ hp
  ⟨.lst ds, _, _, nw, .lst (.inl upd_same) (hs.mono nw.ex), k⟩
theorem new_tup {K : Frag} {F H : Hp} {m : Led} {p : Addr} {xs : List V} {ds : List D} {R : D → Led → Prop} (at_ : At K F m H) (hp : H p = none) (hs : Dens K F xs ds) (k : R (.tup ds) m) : PQ K F m H R (.ref p) (upd H p (.tup xs)) :=
  have nw := Step.new (o := .tup xs) at_ hp
  ⟨.tup ds, _, _, nw, .tup (.inl (.inl upd_same)) (hs.mono nw.ex), k⟩
theorem new_lstM {K : Frag} {F H : Hp} {m : Led} {p : Addr} {xs : List V} {ds : List D} {R : D → Led → Prop} (at_ : At K F m H) (hp : H p = none) (hs : Dens K F xs ds) (k : ∀ p, R (.ref p) (m ++ [(p, .lst ds)])) : PQ K F m H R (.ref p) (upd H p (.lst xs)) :=
  have nw := Step.newM (o := .lst xs) (mo := .lst ds) at_ hp ⟨xs, rfl, hs⟩
  ⟨.ref p, _, _, nw, .ref p, k p⟩
theorem lenOk {n : Nat} (h : n ≤ 100000) : n ≤ sizeLine := Nat.le_trans h (by decide)
theorem lenLt {n : Nat} (h : n < 100000) : n < sizeLine := Nat.lt_of_lt_of_le h (by decide)
theorem o_cat {as bs : List D} (h1 : LstV m d1 as) (h2 : LstV m d2 bs) (hl : as.length + bs.length ≤ 100000) (k : R (.lst (as ++ bs)) m) : OX X (binaryOp .Add) d1 d2 m R := OX.of op_catG fun F H x y q1 q2 at_ => by
  obtain ⟨p, xs, rfl, e1, s1⟩ := h1.read at_.toAt q1
  obtain ⟨q, ys, rfl, e2, s2⟩ := h2.read at_.toAt q2
  exact ⟨p, q, xs, ys, rfl, rfl, e1, e2, lenOk (by rw [s1.length, s2.length]; exact hl), fun l hl => new_lst at_ hl (s1.append s2) k⟩
theorem Dens.atI {K : Frag} {F : Hp} {xs : List V} {ds : List D} {i : Int} {d : D} (h : Dens K F xs ds) (e : L2.atI ds i = some d) : ∃ v, L2.atI xs i = some v ∧ Den K F v d := by
  unfold L2.atI at e ⊢
  rw [h.length]
  cases q : ixN ds.length i with
  | none => rw [q] at e; cases e
  | some j =>
    rw [q] at e
    exact h.get e

/-! ### subscripts -/
structure IxX (X : CD) (d1 d2 : D) (m : Led) (R : D → Led → Prop) : Prop where
  run : ∀ value slice F σ H x y pins s v u, Den X.K F x d1 → Den X.K F y d2 → AtX X F m H → Inv X pins σ H s → RelV x v → RelV y u →
  subscripted slice false v u = operate [v, u] (getItem v u) → wpAny (model X.prog X.w) X.A (subscriptTail value slice v u) (EP X pins σ (PQ X.K F m H R)) X.xe s
theorem IxX.of {r : R2} (ho : IxR X r) (h : ∀ F H x y, Den X.K F x d1 → Den X.K F y d2 → AtX X F m H → r x y H (PQ X.K F m H R)) : IxX X d1 d2 m R := .mk fun value slice F σ H x y pins s v u q1 q2 at_ I rx ry hs => ho value slice pins s σ H x y v u _ I rx ry (h F H x y q1 q2 at_) hs
theorem x_ix {a b : Expr} {ρ : Rn} {pos : Pos} (h : EX X a ρ m fun d1 m1 => EX X b ρ m1 fun d2 m2 => IxX X d1 d2 m2 R) (hs : PlainIx b := by intro _ _; rfl) : EX X (.Subscript a b pos) ρ m R := .mk fun F σ H en at_ => by
  intro pins s I
  refine Subscript_ (binT (R := fun x y H2 => ∃ d1 d2 F2 m2, Step X.K F m H F2 m2 H2 ∧ Den X.K F2 x d1 ∧ Den X.K F2 y d2 ∧ IxX X d1 d2 m2 R) (pe_SE (e := a)) (pe_SE (e := b)) I ?_ ?_)
  · exact h.go en at_ fun v d F1 m1 H1 s1 en1 q1 r1 => r1.go en1 s1.at2 fun v2 d2 F2 m2 H2 s2 en2 q2 r2 => ⟨d, d2, F2, m2, s1.trans s2, q1.mono s2.ex, q2, r2⟩
  · intro v u s2 x y H2 I2 rx ry ⟨d1, d2, F2, m2, st, q1, q2, r⟩
    exact thn (r.run a b F2 σ H2 x y pins s2 v u q1 q2 (at_.to st) I2 rx ry (hs _ _)) fun w s3 ⟨v3, H3, I3, r3, k⟩ => ⟨v3, H3, I3, r3, PQ.step st k⟩
theorem i_lst {ds : List D} {x : D} (h : LstV m d1 ds) (hx : atI ds i = some x) (k : R x m) : IxX X d1 (.int i) m R := IxX.of ix_list fun F H a b q1 q2 at_ => by
  obtain ⟨p, xs, rfl, e1, s1⟩ := h.read at_.toAt q1
  obtain ⟨v, hv, q⟩ := s1.atI hx
  exact ⟨p, xs, i, v, rfl, q2.int_inv, .inl e1, hv, PQ.now at_ q k⟩
theorem i_tup {ds : List D} {x : D} (hx : atI ds i = some x) (k : R x m) : IxX X (.tup ds) (.int i) m R := IxX.of ix_tup fun F H a b q1 q2 at_ => by
  obtain ⟨p, xs, rfl, e1, s1⟩ := tup_read at_.toAt q1
  obtain ⟨v, hv, q⟩ := s1.atI hx
  exact ⟨p, xs, i, v, rfl, q2.int_inv, e1, hv, PQ.now at_ q k⟩
theorem i_str {z : Str} {c : Nat} (hz : z.length ≤ 100000) (hx : atI z.cps.toList i = some c) (k : R (.str ⟨#[c]⟩) m) : IxX X (.str z) (.int i) m R := IxX.of ix_str fun F H a b q1 q2 at_ =>
  ⟨z, i, c, q1.str_inv, q2.int_inv, lenOk hz, hx, PQ.now at_ (.str _) k⟩
/-! slices -/
def PX (X : CD) (o : Option Expr) (ρ : Rn) (m : Led) (R : Option Int → Led → Prop) : Prop := match o with
  | none => R none m
  | some e => EX X e ρ m fun d m1 => ∃ i, d = .int i ∧ R (some i) m1
structure SlX (X : CD) (d : D) (lo hi : Option Int) (m : Led) (R : D → Led → Prop) : Prop where
  ex : ∃ r, SlR X r ∧ ∀ F H x, Den X.K F x d → AtX X F m H → r x lo hi H (PQ X.K F m H R)
theorem SlR.any {ι : Type} {r : ι → V → Option Int → Option Int → Hp → VK → Prop} {ok : ι → Prop} (h : ∀ i, ok i → SlR X (r i)) : SlR X (fun x lo hi H Q => ∃ i, ok i ∧ r i x lo hi H Q) := by
  intro pins s σ H x v vl vu lo hi sl Q I rx hs pl pu ⟨j, hj, q⟩
  exact h j hj pins s σ H x v vl vu lo hi sl Q I rx hs pl pu q
theorem x_slice {e : Expr} {lo hi : Option Expr} {ρ : Rn} {p2 pos : Pos} (h : EX X e ρ m fun d m1 => PX X lo ρ m1 fun l m2 => PX X hi ρ m2 fun u m3 => SlX X d l u m3 R) : EX X (.Subscript e (.Slice lo hi none p2) pos) ρ m R := .mk fun F σ H en at_ => by
  have po : ∀ o : Option Expr, ∃ t : TO, PO X o t ∧ ∀ {R' : Option Int → Led → Prop} {F σ H m}, PX X o ρ m R' → Env X F σ ρ → AtX X F m H → ∀ Q : Option Int → Hp → Prop, (∀ i F1 m1 H1, StepX X F m H F1 m1 H1 → Env X F1 σ ρ → R' i m1 → Q i H1) → t σ H Q := by
    intro o
    cases o with
    | none => exact ⟨_, po_none, fun h en at_ Q k => k none _ _ _ (StepX.refl at_) en h⟩
    | some e => exact ⟨_, po_some pe_SE, fun {R' F σ H m} h en at_ Q k => EX.go (Q := fun x H1 => ∃ i, x = .int i ∧ Q (some i) H1) h en at_ fun v d F1 m1 H1 s1 en1 q ⟨i, ed, r⟩ => by
        subst ed
        exact ⟨i, q.int_inv, k (some i) F1 m1 H1 s1 en1 r⟩⟩
  obtain ⟨tl, pl, kl⟩ := po lo
  obtain ⟨th, ph, kh⟩ := po hi
  refine SE.of (pe_slice (SlR.any (ι := V → Option Int → Option Int → Hp → VK → Prop) (r := fun r => r) (ok := fun r => SlR X r) fun r hr => hr) (pe_SE (e := e)) pl ph) ?_
  refine h.go en at_ fun v d F1 m1 H1 s1 en1 q r => ?_
  refine kl r en1 s1.at2 _ fun l F2 m2 H2 s2 en2 r2 => ?_
  refine kh r2 en2 s2.at2 _ fun u F3 m3 H3 s3 en3 ⟨⟨rr, hr, r3⟩⟩ => ?_
  refine ⟨fun x lo hi H Q => ∃ Q', rr x lo hi H Q' ∧ ∀ v H', Q' v H' → Q v H', ?_, _, r3 F3 H3 v (q.mono (s2.ex.trans s3.ex)) s3.at2, fun v H' k => PQ.step (s1.trans (s2.trans s3)) k⟩
  intro pins s σ H x v vl vu lo hi sl Q I rx hs pl pu ⟨Q', q1, q2⟩
  obtain ⟨ty, tid, h1, h2, h3⟩ := hr pins s σ H x v vl vu lo hi sl Q' I rx hs pl pu q1
  exact ⟨ty, tid, h1, h2, thn h3 fun w s3 ⟨v3, H3, I3, r3, k⟩ => ⟨v3, H3, I3, r3, q2 v3 H3 k⟩⟩
def cutD (xs : List D) (lo hi : Option Int) : List D := (xs.drop (HT.sIx xs.length 0 lo)).take (HT.sIx xs.length xs.length hi - HT.sIx xs.length 0 lo)
theorem Dens.cut {K : Frag} {F : Hp} {xs : List V} {ds : List D} (h : Dens K F xs ds) (lo hi : Option Int) : Dens K F (cutV xs lo hi) (cutD ds lo hi) := by
  unfold cutV cutD
  rw [h.length]
  exact (h.drop _).take _
theorem sl_lst {lo hi : Option Int} {ds : List D} (h : LstV m d1 ds) (k : R (.lst (cutD ds lo hi)) m) : SlX X d1 lo hi m R := .mk ⟨_, sl_list, fun F H x q at_ => by
  obtain ⟨p, xs, rfl, e1, s1⟩ := h.read at_.toAt q
  exact ⟨p, xs, rfl, .inl e1, fun l hl => new_lst at_ hl (s1.cut lo hi) k⟩⟩
end
end DL


namespace DL
open PySem PySem.Spec PyProof.Rows L2

/-! ### data as the library's data, == -/
mutual
def py : D → PyData
  | .non => .none | .bl b => .bool b | .int i => .int i | .str x => .str x
  | .lst xs => .list (pys xs) | .tup xs => .tuple (pys xs)
  | .ty _ => .none | .lsk _ => .none | .dI _ _ => .none | .dK _ _ => .none | .dO _ _ _ _ => .none | .obj _ _ _ => .none | .ref _ => .none | .exc _ _ _ _ => .none | .cls _ => .none
def pys : List D → List PyData
  | [] => []
  | x :: xs => py x :: pys xs
end
/-- plain data of depth at most n; no bools in NB -/
def Sh : Nat → D → Prop
  | _, .non => True
  | _, .bl _ => True
  | _, .int _ => True
  | _, .str _ => True
  | n + 1, .lst xs => ∀ x ∈ xs, Sh n x
  | n + 1, .tup xs => ∀ x ∈ xs, Sh n x
  | _, _ => False
def NB : Nat → D → Prop
  | _, .non => True
  | _, .int _ => True
  | _, .str _ => True
  | n + 1, .lst xs => ∀ x ∈ xs, NB n x
  | n + 1, .tup xs => ∀ x ∈ xs, NB n x
  | _, _ => False
theorem NB.sh : ∀ {n : Nat} {d : D}, NB n d → Sh n d
  | n, .non, _ => by cases n <;> trivial
  | n, .int _, _ => by cases n <;> trivial
  | n, .str _, _ => by cases n <;> trivial
  | n + 1, .lst xs, h => fun x hx => NB.sh (h x hx)
  | n + 1, .tup xs, h => fun x hx => NB.sh (h x hx)
  | 0, .lst _, h => h.elim
  | 0, .tup _, h => h.elim
  | n, .bl _, h => by cases n <;> exact h.elim
  | n, .ty _, h => by cases n <;> exact h.elim
  | n, .dI _ _, h => by cases n <;> exact h.elim
  | n, .lsk _, h => by cases n <;> exact h.elim
  | n, .dK _ _, h => by cases n <;> exact h.elim
  | n, .dO _ _ _ _, h => by cases n <;> exact h.elim
  | n, .obj _ _ _, h => by cases n <;> exact h.elim
  | n, .ref _, h => by cases n <;> exact h.elim
  | n, .exc _ _ _ _, h => by cases n <;> exact h.elim
  | n, .cls _, h => by cases n <;> exact h.elim
theorem pys_ok {n : Nat} (ih : ∀ d, Sh n d → (py d).plain = true ∧ (py d).depth ≤ n) : ∀ xs : List D, (∀ x ∈ xs, Sh n x) → PyData.plainAll (pys xs) = true ∧ PyData.depthAll (pys xs) ≤ n
  | [], _ => ⟨rfl, Nat.zero_le _⟩
  | x :: xs, h => by
    obtain ⟨a, b⟩ := ih x (h x List.mem_cons_self)
    obtain ⟨c, e⟩ := pys_ok ih xs fun y hy => h y (List.mem_cons_of_mem _ hy)
    exact ⟨by simp only [pys, PyData.plainAll, a, c, Bool.and_self], by simp only [pys, PyData.depthAll]; omega⟩
theorem Sh.ok : ∀ (n : Nat) (d : D), Sh n d → (py d).plain = true ∧ (py d).depth ≤ n
  | n, .non, _ => ⟨rfl, by simp [py, PyData.depth]⟩
  | n, .bl _, _ => ⟨rfl, by simp [py, PyData.depth]⟩
  | n, .int _, _ => ⟨rfl, by simp [py, PyData.depth]⟩
  | n, .str _, _ => ⟨rfl, by simp [py, PyData.depth]⟩
  | n + 1, .lst xs, h => by
    obtain ⟨a, b⟩ := pys_ok (Sh.ok n) xs h
    exact ⟨by simp only [py, PyData.plain, a], by simp only [py, PyData.depth]; omega⟩
  | n + 1, .tup xs, h => by
    obtain ⟨a, b⟩ := pys_ok (Sh.ok n) xs h
    exact ⟨by simp only [py, PyData.plain, a], by simp only [py, PyData.depth]; omega⟩
  | 0, .lst _, h => h.elim
  | 0, .tup _, h => h.elim
  | n, .ty _, h => by cases n <;> exact h.elim
  | n, .dI _ _, h => by cases n <;> exact h.elim
  | n, .lsk _, h => by cases n <;> exact h.elim
  | n, .dK _ _, h => by cases n <;> exact h.elim
  | n, .dO _ _ _ _, h => by cases n <;> exact h.elim
  | n, .obj _ _ _, h => by cases n <;> exact h.elim
  | n, .ref _, h => by cases n <;> exact h.elim
  | n, .exc _ _ _ _, h => by cases n <;> exact h.elim
  | n, .cls _, h => by cases n <;> exact h.elim
theorem pys_eqv {n k : Nat} (ih : ∀ a b, NB n a → NB k b → (PyData.eqv (py a) (py b) = true ↔ a = b)) : ∀ xs ys : List D, (∀ x ∈ xs, NB n x) → (∀ x ∈ ys, NB k x) → (PyData.eqvAll (pys xs) (pys ys) = true ↔ xs = ys)
  | [], [], _, _ => by simp [pys, PyData.eqvAll]
  | [], _ :: _, _, _ => by simp [pys, PyData.eqvAll]
  | _ :: _, [], _, _ => by simp [pys, PyData.eqvAll]
  | x :: xs, y :: ys, h, h' => by
    have a := ih x y (h x List.mem_cons_self) (h' y List.mem_cons_self)
    have b := pys_eqv ih xs ys (fun z hz => h z (List.mem_cons_of_mem _ hz)) fun z hz => h' z (List.mem_cons_of_mem _ hz)
    simp only [pys, PyData.eqvAll, Bool.and_eq_true, a, b, List.cons.injEq]
theorem eqv_iff : ∀ (n k : Nat) (a b : D), NB n a → NB k b → (PyData.eqv (py a) (py b) = true ↔ a = b) := by
  intro n
  induction n with
  | zero =>
    intro k a b ha hb
    cases a <;> first | exact ha.elim | (cases b <;> first | (cases k <;> exact hb.elim) | simp [py, PyData.eqv])
  | succ n ih =>
    intro k a b ha hb
    cases a with
    | lst xs =>
      cases b with
      | lst ys =>
        cases k with
        | zero => exact hb.elim
        | succ k =>
          have := pys_eqv (fun a b => ih k a b) xs ys ha hb
          simp only [py, PyData.eqv, this, D.lst.injEq]
      | _ => first | (cases k <;> exact hb.elim) | simp [py, PyData.eqv]
    | tup xs =>
      cases b with
      | tup ys =>
        cases k with
        | zero => exact hb.elim
        | succ k =>
          have := pys_eqv (fun a b => ih k a b) xs ys ha hb
          simp only [py, PyData.eqv, this, D.tup.injEq]
      | _ => first | (cases k <;> exact hb.elim) | simp [py, PyData.eqv]
    | _ => first | exact ha.elim | (cases b <;> first | (cases k <;> exact hb.elim) | simp [py, PyData.eqv])
theorem dp_all {K : Frag} {F : Hp} {n : Nat} (ih : ∀ d v, Sh n d → Den K F v d → Dp K F v (py d)) : ∀ (ds : List D) (vs : List V), (∀ x ∈ ds, Sh n x) → Dens K F vs ds → DpAll K F vs (pys ds)
  | [], _, _, .nil => .nil
  | d :: ds, _, h, .cons q qs => .cons (ih d _ (h d List.mem_cons_self) q) (dp_all ih ds _ (fun x hx => h x (List.mem_cons_of_mem _ hx)) qs)
theorem Den.dp {K : Frag} {F : Hp} : ∀ (n : Nat) (d : D) (v : V), Sh n d → Den K F v d → Dp K F v (py d)
  | n, .non, _, _, .non => .non
  | n, .bl _, _, _, .bl b => .bl b
  | n, .int _, _, _, .int i => .int i
  | n, .str _, _, _, .str x => .str x
  | n + 1, .lst ds, _, h, .lst q qs => .lst (.inl q) (dp_all (fun d v => Den.dp n d v) ds _ h qs)
  | n + 1, .tup ds, _, h, .tup q qs => .tup q (dp_all (fun d v => Den.dp n d v) ds _ h qs)
  | 0, .lst _, _, h, _ => h.elim
  | 0, .tup _, _, h, _ => h.elim
  | n, .ty _, _, h, _ => by cases n <;> exact h.elim
  | n, .dI _ _, _, h, _ => by cases n <;> exact h.elim
  | n, .lsk _, _, h, _ => by cases n <;> exact h.elim
  | n, .dK _ _, _, h, _ => by cases n <;> exact h.elim
  | n, .dO _ _ _ _, _, h, _ => by cases n <;> exact h.elim
  | n, .obj _ _ _, _, h, _ => by cases n <;> exact h.elim
  | n, .ref _, _, h, _ => by cases n <;> exact h.elim
  | n, .exc _ _ _ _, _, h, _ => by cases n <;> exact h.elim
  | n, .cls _, _, h, _ => by cases n <;> exact h.elim
mutual
theorem Dp.up {K : Frag} {F H : Hp} (e : Ex F H) : ∀ {v : V} {d : PyData}, Dp K F v d → Dp K H v d
  | _, _, .non => .non
  | _, _, .bl b => .bl b
  | _, _, .int i => .int i
  | _, _, .str x => .str x
  | _, _, .lst h hs => .lst (e.sqL h) (DpAll.up e hs)
  | _, _, .tup h hs => .tup (e.sqT h) (DpAll.up e hs)
theorem DpAll.up {K : Frag} {F H : Hp} (e : Ex F H) : ∀ {v : List V} {d : List PyData}, DpAll K F v d → DpAll K H v d
  | _, _, .nil => .nil
  | _, _, .cons h hs => .cons (Dp.up e h) (DpAll.up e hs)
end
/-- data seen through the ledger -/
def DV (m : Led) (d d' : D) : Prop := d = d' ∨ ∃ (i : Nat) (a : Addr) (ds : List D), d = .ref a ∧ m[i]? = some (a, .lst ds) ∧ d' = .lst ds
theorem DV.dp {K : Frag} {F H : Hp} {m : Led} {d d' : D} {v : V} {n : Nat} (h : DV m d d') (hs : Sh n d') (at_ : At K F m H) (q : Den K F v d) : Dp K H v (py d') := by
  rcases h with rfl | ⟨i, a, ds, rfl, hi, rfl⟩
  · exact Dp.up at_.sub (q.dp n _ _ hs)
  · cases q
    obtain ⟨hh, ⟨xs, rfl, qs⟩, e⟩ := at_.get hi
    cases n with
    | zero => exact hs.elim
    | succ n => exact .lst (.inl (.inl e)) (DpAll.up at_.sub (dp_all (fun d v => Den.dp n d v) ds _ hs qs))
section
variable {X : CD} {d1 d2 e1 e2 : D} {m : Led} {R : D → Led → Prop}
def rEqP (K : Frag) : R2 := fun x y H Q => ∃ d e, Dp K H x d ∧ Dp K H y e ∧ d.plain = true ∧ e.plain = true ∧ d.depth ≤ 64 ∧ Q (.bl (PyData.eqv d e)) H
def rNeP (K : Frag) : R2 := fun x y H Q => ∃ d e, Dp K H x d ∧ Dp K H y e ∧ d.plain = true ∧ e.plain = true ∧ d.depth ≤ 64 ∧ Q (.bl (!PyData.eqv d e)) H
theorem op_eqP (hu : X.A.units + 64 < cLine) : OpR X (compareOp .Eq) (rEqP X.K) := by
  intro pins s σ H x y v u Q I rx ry h
  obtain ⟨d, e, hd, he, pd, pe, hz, q⟩ := h
  obtain ⟨as, r1⟩ := Dp.reads I d x v hd rx
  obtain ⟨bs, r2⟩ := Dp.reads I e y u he ry
  have : min d.depth e.depth ≤ d.depth := Nat.min_le_left _ _
  exact SeqAt.eq_plain r1 r2 pd pe (by omega) ⟨.bl _, H, I, rfl, q⟩
theorem op_neP (hu : X.A.units + 64 < cLine) : OpR X (compareOp .NotEq) (rNeP X.K) := by
  intro pins s σ H x y v u Q I rx ry h
  obtain ⟨d, e, hd, he, pd, pe, hz, q⟩ := h
  obtain ⟨as, r1⟩ := Dp.reads I d x v hd rx
  obtain ⟨bs, r2⟩ := Dp.reads I e y u he ry
  have : min d.depth e.depth ≤ d.depth := Nat.min_le_left _ _
  exact SeqAt.ne_plain r1 r2 pd pe (by omega) ⟨.bl _, H, I, rfl, q⟩
end

/-! ### built-in calls -/
section
variable {X : CD} {a b e : Expr} {es : List Expr} {ρ : Rn} {m : Led} {R : D → Led → Prop} {x : Str} {p pos : Pos} {d d1 d2 : D} {i j : Int}
theorem x_cb {id : String} (h : AX X (e :: es) ρ m fun ds m1 => BX X (.builtin id) ds m1 R) (hm : X.mg x = none) (hv : bootBuiltins x = some (.builtin id) := by decide +kernel) (hg : Gl X x := by rfl) (hn : x ≠ "__name__" := by decide) (hdb : (x == ("__debug__" : Str)) = false := by decide)
    (he : starEach (e :: es) X.env = (false, eval e X.env) :: starEach es X.env := by rfl) (hpl : (backTo pos (starEach es X.env)).any (·.1) = false := by rfl) : EX X (.Call (.Name x p) (e :: es) [] pos) ρ m R := .mk fun F σ H en at_ => by
  intro pins s I
  refine wpAny_Call_Name_kw (ld_blt I hg hm hv ?_ hn hdb)
  refine PyProof.Rows.callWith_builtin1 (thn (h.run F σ H en at_ pos pins s I) fun us s1 ⟨vs, H1, I1, r1, ds, F1, m1, st, q, k⟩ => ?_) he hpl
  exact thn (BX.run k F1 σ H1 vs pins s1 us q (at_.to st) I1 r1) fun w s3 ⟨v3, H3, I3, r3, k⟩ => ⟨v3, H3, I3, r3, PQ.step st k⟩
theorem x_ct {T : String} (h : AX X (e :: es) ρ m fun ds m1 => BX X (.type T) ds m1 R) (hm : X.mg x = none) (hv : bootBuiltins x = some (.type T) := by decide +kernel) (hg : Gl X x := by rfl) (hn : x ≠ "__name__" := by decide) (hdb : (x == ("__debug__" : Str)) = false := by decide)
    (he : starEach (e :: es) X.env = (false, eval e X.env) :: starEach es X.env := by rfl) (hpl : (backTo pos (starEach es X.env)).any (·.1) = false := by rfl) : EX X (.Call (.Name x p) (e :: es) [] pos) ρ m R := .mk fun F σ H en at_ => by
  intro pins s I
  refine wpAny_Call_Name_kw (ld_blt I hg hm hv ?_ hn hdb)
  refine PyProof.Rows.callWith_type1 (thn (h.run F σ H en at_ pos pins s I) fun us s1 ⟨vs, H1, I1, r1, ds, F1, m1, st, q, k⟩ => ?_) he hpl
  exact thn (BX.run k F1 σ H1 vs pins s1 us q (at_.to st) I1 r1) fun w s3 ⟨v3, H3, I3, r3, k⟩ => ⟨v3, H3, I3, r3, PQ.step st k⟩
theorem Dens.one {K : Frag} {F : Hp} {xs : List V} (h : Dens K F xs [d]) : ∃ v, xs = [v] ∧ Den K F v d := by cases h with | cons a b => cases b; exact ⟨_, rfl, a⟩
theorem Dens.two {K : Frag} {F : Hp} {xs : List V} (h : Dens K F xs [d1, d2]) : ∃ v w, xs = [v, w] ∧ Den K F v d1 ∧ Den K F w d2 := by
  cases h with
  | cons a b => cases b with | cons c e => cases e; exact ⟨_, _, rfl, a, c⟩
theorem b_len {ds : List D} (h : LstV m d ds) (k : R (.int ds.length) m) : BX X (.builtin "len") [d] m R := BX.of call_len_seq fun F H xs qs at_ => by
  obtain ⟨v, rfl, q⟩ := qs.one
  obtain ⟨p, ys, rfl, e1, s1⟩ := h.read at_.toAt q
  exact ⟨p, ys, rfl, .inl (.inl e1), by rw [s1.length]; exact PQ.now at_ (.int _) k⟩
theorem b_lenT {ds : List D} (k : R (.int ds.length) m) : BX X (.builtin "len") [.tup ds] m R := BX.of call_len_seq fun F H xs qs at_ => by
  obtain ⟨v, rfl, q⟩ := qs.one
  obtain ⟨p, ys, rfl, e1, s1⟩ := tup_read at_.toAt q
  exact ⟨p, ys, rfl, .inr e1, by rw [s1.length]; exact PQ.now at_ (.int _) k⟩
theorem b_lenS {z : Str} (hz : z.length ≤ 100000) (k : R (.int z.length) m) : BX X (.builtin "len") [.str z] m R := BX.of call_len_str fun F H xs qs at_ => by
  obtain ⟨v, rfl, q⟩ := qs.one
  exact ⟨z, by rw [q.str_inv], lenOk hz, PQ.now at_ (.int _) k⟩
theorem b_max2 (k : R (.int (max i j)) m) (hc : X.calm = true := by rfl) : BX X (.builtin "max") [.int i, .int j] m R := BX.of (call_max2 hc) fun F H xs qs at_ => by
  obtain ⟨v, w, rfl, q1, q2⟩ := qs.two
  refine ⟨i, j, by rw [q1.int_inv, q2.int_inv], ?_⟩
  have e : (if j > i then j else i) = max i j := by split <;> omega
  rw [e]
  exact PQ.now at_ (.int _) k
theorem b_min2 (k : R (.int (min i j)) m) (hc : X.calm = true := by rfl) : BX X (.builtin "min") [.int i, .int j] m R := BX.of (call_min2 hc) fun F H xs qs at_ => by
  obtain ⟨v, w, rfl, q1, q2⟩ := qs.two
  refine ⟨i, j, by rw [q1.int_inv, q2.int_inv], ?_⟩
  have e : (if j < i then j else i) = min i j := by split <;> omega
  rw [e]
  exact PQ.now at_ (.int _) k
theorem b_int (k : R (.int i) m) : BX X (.type "int") [.int i] m R := BX.of call_int1 fun F H xs qs at_ => by
  obtain ⟨v, rfl, q⟩ := qs.one
  exact .inl ⟨i, by rw [q.int_inv], PQ.now at_ (.int _) k⟩
theorem b_intB {c : Bool} (k : R (.int (if c then 1 else 0)) m) : BX X (.type "int") [.bl c] m R := BX.of call_int1 fun F H xs qs at_ => by
  obtain ⟨v, rfl, q⟩ := qs.one
  exact .inr ⟨c, by rw [q.bl_inv], PQ.now at_ (.int _) k⟩
theorem b_list {ds : List D} (h : LstV m d ds) (k : R (.lst ds) m) : BX X (.type "list") [d] m R := BX.of call_list_of fun F H xs qs at_ => by
  obtain ⟨v, rfl, q⟩ := qs.one
  obtain ⟨p, ys, rfl, e1, s1⟩ := h.read at_.toAt q
  exact ⟨p, ys, rfl, .inl (.inl e1), fun l hl => new_lst at_ hl s1 k⟩
theorem b_listK {ds : List D} (k : R (.lst ds) m) : BX X (.type "list") [.lsk ds] m R := BX.of call_list_of fun F H xs qs at_ => by
  obtain ⟨v, rfl, q⟩ := qs.one
  cases q with
  | lsk h hs => exact ⟨_, _, rfl, .inl (at_.sub.sqL h), fun l hl => new_lst at_ hl hs k⟩
theorem b_listT {ds : List D} (k : R (.lst ds) m) : BX X (.type "list") [.tup ds] m R := BX.of call_list_of fun F H xs qs at_ => by
  obtain ⟨v, rfl, q⟩ := qs.one
  obtain ⟨p, ys, rfl, e1, s1⟩ := tup_read at_.toAt q
  exact ⟨p, ys, rfl, .inr e1, fun l hl => new_lst at_ hl s1 k⟩
theorem b_sum {ns : List Int} (h : LstV m d (ns.map D.int)) (k : R (.int ns.sum) m) (hc : X.calm = true := by rfl) : BX X (.builtin "sum") [d] m R := BX.of (cr_sum hc) fun F H xs qs at_ => by
  obtain ⟨v, rfl, q⟩ := qs.one
  obtain ⟨p, ys, rfl, e1, s1⟩ := h.read at_.toAt q
  exact ⟨p, ns, rfl, by rw [← s1.ints]; exact .inl e1, PQ.now at_ (.int _) k⟩
theorem b_all {bs : List Bool} (h : LstV m d (bs.map D.bl)) (k : R (.bl (bs.all id)) m) (hc : X.calm = true := by rfl) : BX X (.builtin "all") [d] m R := BX.of (cr_all hc) fun F H xs qs at_ => by
  obtain ⟨v, rfl, q⟩ := qs.one
  obtain ⟨p, ys, rfl, e1, s1⟩ := h.read at_.toAt q
  exact ⟨p, bs, rfl, by rw [← s1.bls]; exact .inl e1, PQ.now at_ (.bl _) k⟩
/-! isinstance -/
def tyD : D → Option String
  | .non => some "NoneType" | .bl _ => some "bool" | .int _ => some "int" | .str _ => some "str" | .lst _ => some "list" | .tup _ => some "tuple" | _ => none
theorem Den.tyx {K : Frag} {F H : Hp} {m : Led} {v : V} {d : D} {t : String} (at_ : At K F m H) (q : Den K F v d) (h : tyD d = some t) : TyX K H v (.type t) := by
  cases q <;> simp only [tyD, Option.some.injEq, reduceCtorEq] at h <;> subst h
  · exact .base .non
  · exact .base (.bl _)
  · exact .base (.int _)
  · exact .base (.str _)
  · rename_i h1 _
    rcases at_.sub.rd h1 with h1 | ⟨o, h1⟩
    · exact .base (.lst h1)
    · exact .base (.frz h1)
  · rename_i h1 _
    rcases at_.sub.sqT h1 with (h1 | ⟨o, h1⟩) | ⟨o, its, n, e, c, _⟩
    · exact .base (.tup h1)
    · exact .fTuple h1
    · exact .kTuple e c
end
end DL


namespace DL
open PySem PySem.Spec PyProof.Rows L2

/-! ### steps about an object that is neither frozen nor in the ledger -/
section
variable {K : Frag} {F F2 H H2 : Hp} {m m2 : Led} {p : Addr} {o : HO}
theorem At.notkey (a : At K F m H) (h : H p = none) : p ∉ keys m := fun z => by
  obtain ⟨q, hq, e⟩ := List.mem_map.mp z
  obtain ⟨hh, _, e2⟩ := a.led q hq
  rw [e, h] at e2; cases e2
theorem At.poke (a : At K F m H) (hF : F p = none) (hk : p ∉ keys m) : At K F m (upd H p o) :=
  ⟨fun x u e => by rw [upd_ne (ne_of_none e hF)]; exact a.sub x u e, fun q hq => by
    obtain ⟨hh, e1, e2⟩ := a.led q hq
    exact ⟨hh, e1, by rw [upd_ne (fun z : q.1 = p => hk (z ▸ List.mem_map.mpr ⟨q, hq, rfl⟩))]; exact e2⟩, a.dis, a.nod⟩
theorem Step.poke (s : Step K F m H F2 m2 H2) (hp : H p = none) (hF : F2 p = none) (hk : p ∉ keys m2) : Step K F m H F2 m2 (upd H2 p o) :=
  ⟨s.at2.poke hF hk, s.ex, fun a u e n => by rw [upd_ne (ne_of_none e hp)]; exact s.keep a u e n, s.frF, s.frM⟩
theorem Step.take (s : Step K F m H F2 m2 H2) (hp : H p = none) (hF : F2 p = none) (hk : p ∉ keys m2) (ho : H2 p = some o) : Step K F m H (upd F2 p o) m2 H2 := by
  refine ⟨⟨fun x u e => ?_, fun q hq => ?_, fun q hq => ?_, s.at2.nod⟩, s.ex.trans (Ex.new hF), s.keep, fun x u e n => ?_, s.frM⟩
  · by_cases hx : x = p
    · subst hx; rw [upd_same] at e; cases e; exact ho
    · rw [upd_ne hx] at e; exact s.at2.sub x u e
  · obtain ⟨hh, e1, e2⟩ := s.at2.led q hq
    exact ⟨hh, e1.mono (Ex.new hF), e2⟩
  · rw [upd_ne (fun z : q.1 = p => hk (z ▸ List.mem_map.mpr ⟨q, hq, rfl⟩))]; exact s.at2.dis q hq
  · by_cases hx : x = p
    · subst hx; exact .inl hp
    · rw [upd_ne hx] at e; exact s.frF x u e n
/-- what stays of such an object through a step -/
theorem Step.stay (s : Step K F m H F2 m2 H2) (hF : F p = none) (hk : p ∉ keys m) (ho : H p = some o) : H2 p = some o ∧ F2 p = none ∧ p ∉ keys m2 := by
  refine ⟨s.keep p o ho hk, ?_, fun z => ?_⟩
  · cases e : F2 p with
    | none => rfl
    | some u =>
      rcases s.frF p u e hF with z | z
      · rw [ho] at z; cases z
      · exact absurd z hk
  · rcases s.frM p z with q | q
    · exact hk q
    · rw [ho] at q; cases q
end

/-! ### calls of defs -/
abbrev SpD := List D → Led → (D → Led → Prop) → Prop
def lift (K : Frag) (sp : SpD) : Sp := fun vs H Q _ => ∃ F m ds R, Dens K F vs ds ∧ At K F m H ∧ sp ds m R ∧ ∀ d m2 v F2 H2, R d m2 → Step K F m H F2 m2 H2 → Den K F2 v d → Q v H2
/-- a def that stands in the module, by its promise -/
structure Knows (P : Program) (w : World) (K : Frag) (mg : Str → Option Value) (base : Heap) (k : Nat) (x : Str) (n : Nat) (sp : SpD) : Prop where
  fn : ∃ f fd ps, FnOk P w K mg base CX0 k f fd ps (lift K sp) ∧ mg x = some (.ref f) ∧ PySem.W.keepIn K (.ref f) = true ∧ Binds K fd ps [] ∧ ps.length = n
section
variable {X : CD} {e : Expr} {es : List Expr} {ρ : Rn} {m : Led} {R : D → Led → Prop} {x : Str} {p pos : Pos} {k n : Nat} {sp : SpD}
end

/-! ### statements -/
section
variable {X : CD} {e c tg it : Expr} {es : List Expr} {st : Stmt} {sts a b body : List Stmt} {ρ : Rn} {m : Led} {E : EndsD} {x : Str} {pos pos' p : Pos} {i : Nat}
theorem s_nil (h : E.nx ρ m) : SX X [] ρ m E := .mk fun F σ H en at_ => SSs.of pss_nil ⟨ρ, F, m, Step.refl at_, en, h⟩
theorem s_cons (h : S1 X st ρ m { E with nx := fun ρ' m' => SX X sts ρ' m' E }) : SX X (st :: sts) ρ m E := .mk fun F σ H en at_ => by
  refine SSs.of (pss_cons ps_SS pss_SS) ?_
  refine (h.run F σ H en at_).mono (fun σ2 H2 ⟨ρ2, F2, m2, s2, en2, k⟩ => ?_) (fun _ _ q => q) (fun _ _ q => q) fun _ _ q => q
  exact SSs.step s2 (SX.run k F2 σ2 H2 en2 (at_.to s2))
theorem s_expr (h : EX X e ρ m fun _ m1 => E.nx ρ m1) (hs : swapsWith e none pos.line X.env = pure false := by rfl) : S1 X (.Expr e pos) ρ m E := .mk fun F σ H en at_ =>
  SS.of (ps_expr (pe_SE (e := e)) hs) (h.go en at_ fun v d F1 m1 H1 s1 en1 q r => ⟨ρ, F1, m1, s1, en1, r⟩)
theorem s_ret (h : EX X e ρ m E.rt) : S1 X (.Return (some e) pos) ρ m E := .mk fun F σ H en at_ => SS.of (ps_ret (pe_SE (e := e))) (h.run F σ H en at_)
theorem s_if (h : TX X c ρ m fun k m1 => (k = true → SX X a ρ m1 E) ∧ (k = false → SX X b ρ m1 E)) : S1 X (.If c a b pos) ρ m E := .mk fun F σ H en at_ =>
  SS.of (ps_if (pt_ST (e := c)) (pss_SS (sts := a)) (pss_SS (sts := b))) (h.go en at_ fun k F1 m1 H1 s1 en1 r => by
    cases k with
    | true => exact SSs.step s1 ((r.1 rfl).run F1 σ H1 en1 s1.at2)
    | false => exact SSs.step s1 ((r.2 rfl).run F1 σ H1 en1 s1.at2))
theorem s_set (h : EX X e ρ m fun d m1 => ∃ i ρ', SetAt ρ i x d ρ' ∧ E.nx ρ' m1) (hx : Loc X.env.scope x := by first | exact Or.inl rfl | exact Or.inr rfl) (hs : swapsWith e (some (.Name x pos')) pos.line X.env = pure false := by rfl)
    (hf : X.fn x = true ∨ X.env.scope.names.lookup x = some .local := by first | exact .inl rfl | exact .inr rfl | assumption) : S1 X (.Assign [.Name x pos'] e pos) ρ m E := .mk fun F σ H en at_ => by
  intro pins s I
  refine wpAny_Assign_Name (thn (h.run F σ H en at_ pins s I) fun v s1 ⟨y, H1, I1, r1, d, F1, m1, st, q, i, ρ', hset, k⟩ => ?_) hs
  exact store_ok I1 en.nd (en.ix hset) hx r1 (fun s2 I2 => ⟨_, H1, I2, ρ', F1, m1, st, (en.mono st.ex).set hset q, k⟩) hf
/-- name = [..] by a comprehension on one line -/
theorem g_name {R : Rn → Led → Prop} {d : D} {ρ' : Rn} (hset : SetAt ρ i x d ρ') (k : R ρ' m) (hx : Loc X.env.scope x := by first | exact Or.inl rfl | exact Or.inr rfl) (hf : X.fn x = true ∨ X.env.scope.names.lookup x = some .local := by first | exact .inl rfl | exact .inr rfl | assumption) : GX X (.Name x pos) d ρ m R := .mk fun F σ H v en at_ q =>
  SG.of (pg_name en.nd (en.ix hset) hx hf) ⟨ρ', F, m, Step.refl at_, en.set hset q, k⟩
structure GsX (X : CD) (ts : List Expr) (ds : List D) (ρ : Rn) (m : Led) (R : Rn → Led → Prop) : Prop where
  ex : ∃ t, PGs X ts t ∧ ∀ F σ H vs, Env X F σ ρ → AtX X F m H → Dens X.K F vs ds → t vs σ H (PN X F m H R)
theorem PGs.mono {ts : List Expr} {t : TGs} (h : PGs X ts t) : PGs X ts fun vs σ H Q => ∃ Q', t vs σ H Q' ∧ ∀ σ H, Q' σ H → Q σ H := ⟨fun pins s σ H vs us Q I r ⟨Q', q1, q2⟩ => thn (h.run pins s σ H vs us Q' I r q1) fun _ s' ⟨σ', H', I', k⟩ => ⟨σ', H', I', q2 _ _ k⟩⟩
theorem PGs.any {ts : List Expr} : PGs X ts fun vs σ H Q => ∃ t, PGs X ts t ∧ t vs σ H Q := ⟨fun pins s σ H vs us Q I r ⟨t, q1, q2⟩ => q1.run pins s σ H vs us Q I r q2⟩
/-- target = value -/
theorem s_asg (h : EX X e ρ m fun d m1 => GX X tg d ρ m1 E.nx) (hs : swapsWithSole [tg] e pos.line X.env = pure false := by rfl) (hw : swappedStores [tg] e X.env = pure none := by rfl)
    (h1 : (assignEach [tg] X.env).map (·.2) = [assign tg X.env] := by rfl) : S1 X (.Assign [tg] e pos) ρ m E := .mk fun F σ H en at_ =>
  SS.of (ps_asg (pe_SE (e := e)) (pg_SG (tg := tg)) hs hw h1) (h.go en at_ fun v d F1 m1 H1 s1 en1 q r => (GX.run r F1 σ H1 v en1 s1.at2 q).mono fun _ _ k => PN.step s1 k)
/-- name op= e, of a name that holds an int -/
def IpX (X : CD) (op : Operator) (d1 d2 : D) (m : Led) (R : D → Led → Prop) : Prop := OX X (inplaceOp op) d1 d2 m R
/-- o[i] = v -/
structure StX (X : CD) (d1 d2 d3 : D) (m : Led) (R : Led → Prop) : Prop where
  ex : ∃ t : TSet, PSet X t ∧ ∀ F H o i v, Den X.K F o d1 → Den X.K F i d2 → Den X.K F v d3 → AtX X F m H → t o i v H fun H2 => ∃ F2 m2, Step X.K F m H F2 m2 H2 ∧ R m2
theorem PSet.any : PSet X fun o i v H Q => ∃ (t : TSet) (Q' : Hp → Prop), PSet X t ∧ t o i v H Q' ∧ ∀ H', Q' H' → Q H' := fun pins s σ H o i v ov iv u Q I r1 r2 r3 ⟨t, Q', pt, q, k⟩ => thn (pt pins s σ H o i v ov iv u Q' I r1 r2 r3 q) fun _ s' ⟨H', I', z⟩ => ⟨H', I', k H' z⟩
theorem g_sub {o ix : Expr} {d : D} {R : Rn → Led → Prop} (h : EX X o ρ m fun d1 m1 => EX X ix ρ m1 fun d2 m2 => StX X d1 d2 d m2 fun m3 => R ρ m3)
    (ha : ∀ v, assign (.Subscript o ix pos) X.env v = (do
      let ov ← holding [v] (eval o X.env)
      let iv ← holding [v, ov] (eval ix X.env)
      standAt pos
      holding [v, ov, iv] (setItem ov iv v)
      release [v, ov, iv] []) := by intro _; rfl) : GX X (.Subscript o ix pos) d ρ m R := .mk fun F σ H v en at_ q => by
  refine SG.of (pg_sub (pe_SE (e := o)) (pe_SE (e := ix)) PSet.any ha) ?_
  refine h.go en at_ fun v1 d1 F1 m1 H1 s1 en1 q1 r1 => r1.go en1 s1.at2 fun v2 d2 F2 m2 H2 s2 en2 q2 ⟨⟨t, pt, r2⟩⟩ => ?_
  have st := s1.trans s2.st
  exact ⟨t, _, pt, r2 F2 H2 v1 v2 v (q1.mono s2.ex) q2 (q.mono st.ex) s2.at2, fun H' ⟨F3, m3, s3, k⟩ => ⟨ρ, F3, m3, st.trans s3, en2.mono s3.ex, k⟩⟩
theorem st_lst {j n : Nat} {a : Addr} {i : Int} {d : D} {ds : List D} {R : Led → Prop} (hm : m[n]? = some (a, .lst ds)) (hj : ixN ds.length i = some j) (k : R (m.set n (a, .lst (ds.set j d)))) : StX X (.ref a) (.int i) d m R := .mk ⟨_, set_list, fun F H o ix v q1 q2 q3 at_ => by
  cases q1
  obtain ⟨hh, ⟨xs, rfl, hs⟩, e⟩ := at_.get hm
  refine ⟨a, xs, i, j, rfl, q2.int_inv, e, by rw [hs.length]; exact hj, ?_⟩
  exact ⟨F, _, Step.write (o' := .lst (ds.set j d)) at_ hm ⟨_, rfl, hs.set j q3⟩, k⟩⟩
end

/-! ### methods of lists -/
section
variable {X : CD} {o e : Expr} {es : List Expr} {ρ : Rn} {m : Led} {R : D → Led → Prop} {apos cpos : Pos} {n : Nat} {a : Addr} {ds : List D}
end
end DL


namespace DL
open PySem PySem.Spec PyProof.Rows L2 RZ

/-! ### what is walked -/
section
variable {X : CD} {tg it a b : Expr} {ρ : Rn} {m : Led} {R : List D → Led → Prop} {p pos tpos : Pos}
theorem yd_at {K : Frag} {F1 H2 : Hp} {xs : List V} {ds : List D} {i : Nat} {x : V} {H3 : Hp} (hs : Dens K F1 xs ds) (y : YAt xs i H2 x H3) : YD K F1 ds i H2 x H3 := fun F2 m2 e at_ => by
  obtain ⟨rfl, hx⟩ := y
  obtain ⟨d, hd, q⟩ := hs.getV hx
  exact ⟨F2, d, hd, Step.refl at_, q.mono e⟩
theorem ix_tup (h : EX X it ρ m fun d m1 => ∃ ds, d = .tup ds ∧ R ds m1) : IX X tg it ρ m R := .mk fun F σ H en at_ =>
  SI.of (pi_tup (pe_SE (e := it))) (h.go en at_ fun v d F1 m1 H1 s1 en1 q ⟨ds, ed, r⟩ => by
    subst ed
    cases q with
    | tup hq hs => exact ⟨_, rfl, ⟨_, s1.at2.sub.sqT hq⟩, ds, F1, m1, s1, r, by rw [← hs.length]; exact walk_tup.mono (fun H' e => e.sqT hq) fun i H' x H'' _ _ y => yd_at hs y⟩)
/-- lo, lo + 1, .. n of them -/
def rangeD (lo : Int) (n : Nat) : List D := (List.range n).map fun (k : Nat) => D.int (lo + (k : Int))
theorem rangeD_len (lo : Int) (n : Nat) : (rangeD lo n).length = n := by unfold rangeD; rw [List.length_map, List.length_range]
theorem rangeD_get {lo : Int} {n i : Nat} (h : i < n) : (rangeD lo n)[i]? = some (.int (lo + (i : Int))) := by
  unfold rangeD
  rw [List.getElem?_map, List.getElem?_range h]; rfl
theorem walk_rangeD {K : Frag} {F1 : Hp} {lo : Int} {n : Nat} : Walk (Itr lo n) (rangeD lo n).length (fun H2 => Ex F1 H2) (YD K F1 (rangeD lo n)) := by
  rw [rangeD_len]
  refine walk_range.mono (fun _ _ => trivial) fun i H' x H'' hi _ y F2 m2 e at_ => ?_
  obtain ⟨rfl, rfl⟩ := y
  exact ⟨F2, _, rangeD_get hi, Step.refl at_, .int _⟩
theorem ix_range1 (h : EX X a ρ m fun d m1 => ∃ j : Int, d = .int j ∧ -100000 ≤ j ∧ j ≤ 100000 ∧ R (rangeD 0 j.toNat) m1) (hm : X.mg "range" = none) (hg : Gl X "range" := by rfl) (hs : starEach [a] X.env = [(false, eval a X.env)] := by rfl) : IX X tg (.Call (.Name "range" p) [a] [] pos) ρ m R := .mk fun F σ H en at_ =>
  SI.of (pi_range1 hg hm (pa_cons (pe_SE (e := a)) pa_nil hs) hs) (h.go en at_ fun v d F1 m1 H1 s1 en1 q ⟨j, ed, h1, h2, r⟩ => by
    subst ed
    exact ⟨j, by rw [q.int_inv], by omega, by omega, _, F1, m1, s1, r, walk_rangeD⟩)
theorem ix_range2 (h : EX X a ρ m fun d m1 => EX X b ρ m1 fun d2 m2 => ∃ i j : Int, d = .int i ∧ d2 = .int j ∧ (-100000 ≤ i ∧ i ≤ 100000 ∧ -100000 ≤ j ∧ j ≤ 100000) ∧ R (rangeD i (j - i).toNat) m2) (hm : X.mg "range" = none) (hg : Gl X "range" := by rfl)
    (hs : starEach [a, b] X.env = [(false, eval a X.env), (false, eval b X.env)] := by rfl) (hs2 : starEach [b] X.env = [(false, eval b X.env)] := by rfl) (hs1 : starEach [a, b] X.env = (false, eval a X.env) :: starEach [b] X.env := by rfl) : IX X tg (.Call (.Name "range" p) [a, b] [] pos) ρ m R := .mk fun F σ H en at_ =>
  SI.of (pi_range2 hg hm (pa_cons (pe_SE (e := a)) (pa_cons (pe_SE (e := b)) pa_nil hs2) hs1) hs hs2) (h.go en at_ fun v d F1 m1 H1 s1 en1 q r1 => r1.go en1 s1.at2 fun v2 d2 F2 m2 H2 s2 en2 q2 ⟨i, j, ed, ed2, hb, r⟩ => by
    subst ed
    subst ed2
    exact ⟨i, j, by rw [q.int_inv, q2.int_inv], by omega, _, F2, m2, s1.trans s2, r, walk_rangeD⟩)
/-- pairs -/
def zipD : List D → List D → List D
  | a :: as, b :: bs => .tup [a, b] :: zipD as bs
  | _, _ => []
theorem zipD_len : ∀ as bs : List D, (zipD as bs).length = min as.length bs.length
  | [], _ => by simp [zipD]
  | _ :: _, [] => by simp [zipD]
  | a :: as, b :: bs => by simp only [zipD, List.length_cons, zipD_len as bs]; omega
theorem zipD_get : ∀ {as bs : List D} {i : Nat} {a b : D}, as[i]? = some a → bs[i]? = some b → (zipD as bs)[i]? = some (.tup [a, b])
  | [], _, _, _, _, h, _ => by simp at h
  | _ :: _, [], _, _, _, _, h => by simp at h
  | x :: as, y :: bs, 0, a, b, h1, h2 => by simp at h1 h2; subst h1; subst h2; rfl
  | x :: as, y :: bs, i + 1, a, b, h1, h2 => by
    simp only [zipD, List.getElem?_cons_succ]
    exact zipD_get (by simpa using h1) (by simpa using h2)
theorem yd_pair {K : Frag} {F1 H2 : Hp} {xs ys : Nat → Option V} {ds : List D} {i : Nat} {x : V} {H3 : Hp} (h : ∀ u v, xs i = some u → ys i = some v → ∃ d1 d2, Den K F1 u d1 ∧ Den K F1 v d2 ∧ ds[i]? = some (.tup [d1, d2])) (y : YPair xs ys i H2 x H3) : YD K F1 ds i H2 x H3 := fun F2 m2 e at_ => by
  obtain ⟨T, u, v, rfl, hT, rfl, hu, hv⟩ := y
  obtain ⟨d1, d2, q1, q2, hd⟩ := h u v hu hv
  have nw := Step.new (o := .tup [u, v]) at_ hT
  exact ⟨_, _, hd, nw, .tup (.inl (.inl upd_same)) (.cons (q1.mono (e.trans nw.ex)) (.cons (q2.mono (e.trans nw.ex)) .nil))⟩
theorem walk_zipT {K : Frag} {a b : Addr} {xs ys : List V} {n : Nat} (hn : n = min xs.length ys.length) : Walk (ItzT K a b) n (fun H => SqT K H a xs ∧ SqT K H b ys) (YPair (fun i => xs[i]?) (fun i => ys[i]?)) := by
  subst hn
  refine ⟨fun i _ hi q => ?_, fun _ q => ⟨xs, ys, q.1, q.2, by omega⟩, fun i H v H' _ q y => ?_⟩
  · have h1 : i < xs.length := by omega
    have h2 : i < ys.length := by omega
    exact ⟨xs, ys, xs[i], ys[i], q.1, q.2, by simp [h1], by simp [h2]⟩
  · obtain ⟨T, x, z, h1, h2, h3, h4, h5⟩ := y
    exact ⟨T, x, z, h1, h2, h3, h4 xs q.1, h5 ys q.2⟩
/-- enumerate -/
def enumD (as : List D) : List D := zipD (rangeD 0 as.length) as
end

/-! ### for, while -/
section
variable {X : CD} {c tg it : Expr} {body : List Stmt} {ρ : Rn} {m : Led} {E : EndsD} {pos : Pos}
def ForI (X : CD) (tg : Expr) (body : List Stmt) (ρ : Rn) (E : EndsD) (ds : List D) (m1 : Led) : Prop := ∃ I : Nat → Rn → Led → Prop, I 0 ρ m1 ∧
  (∀ i d ρ' m', ds[i]? = some d → I i ρ' m' → GX X tg d ρ' m' fun ρ2 m2 => SX X body ρ2 m2 { E with nx := I (i + 1), ct := I (i + 1), bk := E.nx }) ∧ ∀ ρ' m', I ds.length ρ' m' → E.nx ρ' m'
theorem s_for (h : IX X tg it ρ m (ForI X tg body ρ E)) (hc : X.calm = true := by rfl) (hs : ∀ x, foldedSetIterable it X.env x = pure x := by intro _; rfl) : S1 X (.For tg it body [] pos) ρ m E := .mk fun F σ H en at_ => by
  refine SS.of (ps_for at_.po hc (pi_SI (it := it)) (pg_SG (tg := tg)) (pss_SS (sts := body)) hs) ?_
  refine (h.run F σ H en at_).mono fun J H1 ⟨ds, F1, m1, st, ⟨I, i0, turn, done⟩, w⟩ => ?_
  refine for_it w (fun i σ' H' => ∃ ρ' F' m', Step X.K F1 m1 H1 F' m' H' ∧ Env X F' σ' ρ' ∧ I i ρ' m') ⟨ρ, F1, m1, Step.refl st.at2, en.mono st.ex, i0⟩ (fun i σ' H' _ ⟨ρ', F', m', s', _, _⟩ => s'.ex.trans s'.at2.sub) (fun i x σ' H' H'' hi ⟨ρ', F', m', s', en', hI⟩ y => ?_) (fun σ' H' ⟨ρ', F', m', s', en', hI⟩ => ⟨ρ', F', m', st.trans s', en', done ρ' m' hI⟩)
  obtain ⟨F3, d, hd, s3, q⟩ := y F' m' s'.ex s'.at2
  refine ((turn i d ρ' m' hd hI).run F3 σ' H'' x (en'.mono s3.ex) (at_.to (st.trans (s'.trans s3))) q).mono fun σ2 H2 ⟨ρ2, F4, m4, s4, en4, sx⟩ => ?_
  have sa := (s'.trans s3).trans s4
  refine (SX.run sx F4 σ2 H2 en4 (at_.to (st.trans sa))).mono (fun σ5 H5 ⟨ρ5, F5, m5, s5, en5, k⟩ => ⟨ρ5, F5, m5, sa.trans s5, en5, k⟩) (fun v H5 k => PQ.step (st.trans sa) k) (fun σ5 H5 ⟨ρ5, F5, m5, s5, en5, k⟩ => ⟨ρ5, F5, m5, (st.trans sa).trans s5, en5, k⟩) (fun σ5 H5 ⟨ρ5, F5, m5, s5, en5, k⟩ => ⟨ρ5, F5, m5, sa.trans s5, en5, k⟩)
end

/-! ### comprehensions -/
inductive SlotAt : Rn → Nat → Str → Prop
  | here {x : Str} {o : Option D} {r : Rn} : SlotAt ((x, o) :: r) 0 x
  | there {x : Str} {r : Rn} {q : Str × Option D} {i : Nat} : SlotAt r i x → SlotAt (q :: r) (i + 1) x
theorem SlotAt.ix : ∀ {ρ : Rn} {i : Nat} {x : Str}, SlotAt ρ i x → (ρ.map (·.1))[i]? = some x
  | _, _, _, .here => rfl
  | _, _, _, .there h => by rw [List.map_cons, List.getElem?_cons_succ]; exact h.ix
theorem SlotAt.set : ∀ {ρ : Rn} {i : Nat} {x : Str}, SlotAt ρ i x → ∀ d, ∃ ρ', SetAt ρ i x d ρ'
  | _, _, _, .here, d => ⟨_, .here⟩
  | _, _, _, .there h, d => let ⟨_, k⟩ := h.set d; ⟨_, .there k⟩
section
variable {X : CD} {elt it : Expr} {scope : Scope} {ρ : Rn} {m : Led} {R : D → Led → Prop} {pos py : Pos} {y : Str} {j : Nat}
theorem wipe1 {F : Hp} {σ : L2.St} {ρ2 : Rn} {d : D} {v : V} (en : Env X F σ ρ) (hset : SetAt ρ j y d ρ2) (q : Den X.K F v d) : Env X F ((L2.wipe σ [j]).set j (some v)) ρ2 := by
  have e : (L2.wipe σ [j]).set j (some v) = σ.set j (some v) := by
    show ((σ.set j none).set j (some v)) = _
    rw [List.set_set]
  rw [e]
  exact en.set hset q
theorem Env.blk {F : Hp} {σ : L2.St} {s : Shared} {H0 : Hp} {cenv : PySem.Env} {fp : List Addr} (en : Env X F σ ρ) : Env (X.blk s H0 scope cenv fp) F σ ρ := ⟨en.nd, en.nm, en.ev⟩
abbrev CD.blk (X : CD) (s : Shared) (H : Hp) (scope : Scope) (env : PySem.Env) (fp : List Addr) : CD := ⟨X.toCx.blk s H scope env fp, fun _ _ _ _ => False⟩
/-- what a turn of a comprehension asks: acc is what has been made -/
def CompI (X : CD) (scope : Scope) (ifs : List Expr) (elt : Expr) (y : Str) (j : Nat) (ρ : Rn) (R : List D → Led → Prop) (ds : List D) (m1 : Led) : Prop := ∃ I : Nat → List D → Led → Prop, I 0 [] m1 ∧
  (∀ i d acc m', ds[i]? = some d → I i acc m' → ∃ ρ2, SetAt ρ j y d ρ2 ∧ ∀ (s : Shared) (H0 : Hp) (C : Addr) (cl : List (Str × Addr)) (fp : List Addr),
    match ifs with
    | [] => EX (X.blk s H0 scope (compEnvC scope cl C X.env) fp) elt ρ2 m' fun z m3 => acc.length < 100000 ∧ I (i + 1) (acc ++ [z]) m3
    | [c] => TX (X.blk s H0 scope (compEnvC scope cl C X.env) fp) c ρ2 m' fun k m2 => (k = true → ∀ (s : Shared) (H0 : Hp) (C : Addr) (cl : List (Str × Addr)) (fp : List Addr), EX (X.blk s H0 scope (compEnvC scope cl C X.env) fp) elt ρ2 m2 fun z m3 => acc.length < 100000 ∧ I (i + 1) (acc ++ [z]) m3) ∧ (k = false → I (i + 1) acc m2)
    | _ => False) ∧ ∀ acc m', I ds.length acc m' → R acc m'
def STs (X : CD) (scope : Scope) (ifs : List Expr) : TT := fun σ H Q => match ifs with
  | [] => Q true H
  | [c] => ∀ s H0 C cl fp, ST (X.blk s H0 scope (compEnvC scope cl C X.env) fp) c σ H Q
  | _ => False
theorem pts_STs {ifs : List Expr} (s : Shared) (H0 : Hp) (C : Addr) (cl : List (Str × Addr)) (fp : List Addr) : PTs (X.blk s H0 scope (compEnvC scope cl C X.env) fp) ifs (STs X scope ifs) := by
  match ifs with
  | [] => exact pts_nil
  | [c] =>
    refine ⟨fun pins st σ H Q I h => ?_⟩
    exact (pts_one (pt_ST (X := X.blk s H0 scope (compEnvC scope cl C X.env) fp) (e := c))).run pins st σ H Q I (h s H0 C cl fp)
  | _ :: _ :: _ => exact ⟨fun _ _ _ _ _ _ h => False.elim h⟩
def SEb (X : CD) (scope : Scope) (e : Expr) : TE := fun σ H Q => ∀ s H0 C cl fp, SE (X.blk s H0 scope (compEnvC scope cl C X.env) fp) e σ H Q
theorem pe_SEb {e : Expr} (s : Shared) (H0 : Hp) (C : Addr) (cl : List (Str × Addr)) (fp : List Addr) : PE (X.blk s H0 scope (compEnvC scope cl C X.env) fp) e (SEb X scope e) := ⟨fun pins st σ H Q I h => h s H0 C cl fp pins st I⟩
/-- the core: the reading of a comprehension over data -/
theorem lc_read {ifs : List Expr} {F σ H} (hl1 : ifs.length ≤ 1) (en : Env X F σ ρ) (at_ : AtX X F m H) (R : List D → Led → Prop) (QQ : VK) (h : IX X (.Name y py) it ρ m (CompI X scope ifs elt y j ρ R))
    (fin : ∀ Dl acc vs F1 m1 H1 F' m' H', Step X.K F m H F1 m1 H1 → H1 Dl = none → Step X.K F1 m1 H1 F' m' H' → F' Dl = none → Dl ∉ keys m' → H' Dl = some (.lst vs) → Dens X.K F' vs acc → R acc m' → QQ (.ref Dl) H') : tLc (SI X (.Name y py) it) (gName j) (STs X scope ifs) (SEb X scope elt) [j] σ H QQ := by
  refine (h.run F σ H en at_).mono fun J H1 ⟨ds, F1, m1, st, ⟨I, i0, turn, done⟩, w⟩ => fun Dl hDl => ?_
  have hF1 : F1 Dl = none := st.at2.sub.free hDl
  have hk1 : Dl ∉ keys m1 := st.at2.notkey hDl
  refine lc_it w (fun i H' => ∃ acc vs F' m', Step X.K F1 m1 H1 F' m' H' ∧ H' Dl = some (.lst vs) ∧ Dens X.K F' vs acc ∧ I i acc m' ∧ F' Dl = none ∧ Dl ∉ keys m') ⟨[], [], F1, m1, (Step.refl st.at2).poke hDl hF1 hk1, upd_same, .nil, i0, hF1, hk1⟩
    (fun i H' _ ⟨acc, vs, F', m', s', _⟩ => s'.ex.trans s'.at2.sub) (fun i x H' H'' hi ⟨acc, vs, F', m', s', hl, hs, hI, hF', hk'⟩ yy => ?_) (fun H' ⟨acc, vs, F', m', s', hl, hs, hI, hF', hk'⟩ => ?_)
  · obtain ⟨F3, d, hd, s3, q⟩ := yy F' m' s'.ex s'.at2
    obtain ⟨ρ2, hset, turn⟩ := turn i d acc m' hd hI
    obtain ⟨a1, a2, a3⟩ := s3.stay hF' hk' hl
    have en2 := wipe1 (en.mono (st.ex.trans (s'.ex.trans s3.ex))) hset q
    have fin : ∀ {F4 m4 H4 v z}, Step X.K F3 m' H'' F4 m4 H4 → Den X.K F4 v z → acc.length < 100000 ∧ I (i + 1) (acc ++ [z]) m4 → ∃ acc, H4 Dl = some (.lst acc) ∧ acc.length < sizeLine ∧ ∃ acc_1 vs F' m', Step X.K F1 m1 H1 F' m' (upd H4 Dl (.lst (acc ++ [v]))) ∧ upd H4 Dl (.lst (acc ++ [v])) Dl = some (.lst vs) ∧ Dens X.K F' vs acc_1 ∧ I (i + 1) acc_1 m' ∧ F' Dl = none ∧ Dl ∉ keys m' := fun {F4 m4 H4 v z} s4 q4 hh => by
      obtain ⟨b1, b2, b3⟩ := s4.stay a2 a3 a1
      exact ⟨vs, b1, lenLt (by rw [hs.length]; exact hh.1), acc ++ [z], vs ++ [v], F4, m4, ((s'.trans s3).trans s4).poke hDl b2 b3, upd_same, (hs.mono (s3.ex.trans s4.ex)).snoc q4, hh.2, b2, b3⟩
    refine ⟨wipe_back (by simp), ?_⟩
    match ifs, turn with
    | [], turn =>
      unfold STs
      dsimp only
      rw [if_pos rfl]
      intro s H0 C cl fp
      exact EX.go (turn s H0 C cl fp) en2.blk (.quiet s3.at2) fun v z F4 m4 H4 s4 _ q4 hh => fin s4 q4 hh
    | [c], turn =>
      show ∀ s H0 C cl fp, ST (X.blk s H0 scope (compEnvC scope cl C X.env) fp) c _ H'' _
      intro s H0 C cl fp
      refine TX.go (turn s H0 C cl fp) en2.blk (.quiet s3.at2) fun k F4 m4 H4 s4 _ r => ?_
      cases k with
      | true =>
        rw [if_pos rfl]
        intro s' H0' C' cl' fp'
        exact EX.go (r.1 rfl s' H0' C' cl' fp') (en2.mono s4.ex).blk (.quiet s4.at2.toAt) fun v z F5 m5 H5 s5 _ q5 hh => fin (s4.st.trans s5.st) q5 hh
      | false =>
        rw [if_neg Bool.false_ne_true]
        obtain ⟨b1, b2, b3⟩ := Step.stay s4.st a2 a3 a1
        exact ⟨acc, vs, F4, m4, (s'.trans s3).trans s4, b1, hs.mono (s3.ex.trans s4.ex), r.2 rfl, b2, b3⟩
    | _ :: _ :: _, turn => exact absurd hl1 (by simp)
  · exact fin Dl acc vs F1 m1 H1 F' m' H' st hDl s' hF' hk' hl hs (done acc m' (by simpa using hI))
/-- the list as it is made: frozen, or in the ledger -/
theorem lc_frz {R : List D → Led → Prop} {F H F1 H1 F' H' : Hp} {m1 m' : Led} {Dl : Addr} {acc : List D} {vs : List V} (st : Step X.K F m H F1 m1 H1) (hDl : H1 Dl = none) (s' : Step X.K F1 m1 H1 F' m' H') (hF' : F' Dl = none) (hk' : Dl ∉ keys m') (hl : H' Dl = some (.lst vs)) (hs : Dens X.K F' vs acc) :
    ∃ F2, Step X.K F m H F2 m' H' ∧ Den X.K F2 (.ref Dl) (.lst acc) :=
  ⟨_, st.trans (s'.take hDl hF' hk' hl), .lst (.inl upd_same) (hs.mono (Ex.new hF'))⟩
theorem Step.takeM {K : Frag} {F H F2 H2 : Hp} {m m2 : Led} {p : Addr} {h : HO} {mo : MO} (s : Step K F m H F2 m2 H2) (hp : H p = none) (hF : F2 p = none) (hk : p ∉ keys m2) (ho : H2 p = some h) (hm : MDen K F2 p mo h) : Step K F m H F2 (m2 ++ [(p, mo)]) H2 := by
  refine ⟨⟨s.at2.sub, fun q hq => ?_, fun q hq => ?_, ?_⟩, s.ex, s.keep, s.frF, fun x hx => ?_⟩
  · rcases List.mem_append.mp hq with hq | hq
    · exact s.at2.led q hq
    · obtain rfl : q = (p, mo) := by simpa using hq
      exact ⟨h, hm, ho⟩
  · rcases List.mem_append.mp hq with hq | hq
    · exact s.at2.dis q hq
    · obtain rfl : q = (p, mo) := by simpa using hq
      exact hF
  · show (List.map (·.1) (m2 ++ [(p, mo)])).Nodup
    rw [List.map_append]
    refine List.nodup_append.mpr ⟨s.at2.nod, by simp, fun x hx y hy => ?_⟩
    obtain rfl : y = p := by simpa using hy
    exact fun z => hk (z ▸ hx)
  · have hx' : x ∈ List.map (·.1) (m2 ++ [(p, mo)]) := hx
    rw [List.map_append] at hx'
    rcases List.mem_append.mp hx' with q | q
    · exact s.frM x q
    · obtain rfl : x = p := by simpa using q
      exact .inr hp
/-- [elt for y in it if ..] -/
theorem x_lc {ifs : List Expr} (hj : SlotAt ρ j y) (h : IX X (.Name y py) it ρ m (CompI X scope ifs elt y j ρ fun acc m' => R (.lst acc) m')) (hl1 : ifs.length ≤ 1 := by decide) (hok : blkC X.N X.env.scope scope [(y, j)] = true := by kernel_rfl)
    (hx : ∀ cl C, Loc (compEnvC scope cl C X.env).scope y := by intro _ _; first | exact Or.inl rfl | exact Or.inr rfl) (hf : ∀ cl C, (scope.names.lookup y == some .cell) = true ∨ (compEnvC scope cl C X.env).scope.names.lookup y = some .local := by intro _ _; first | exact .inl rfl | exact .inr rfl)
    (hc : X.calm = true := by rfl) (hs : ∀ x, foldedSetIterable it X.env x = pure x := by intro _; rfl) : EX X (.ListComp elt [⟨.Name y py, it, ifs, 0⟩] scope pos) ρ m R := .mk fun F σ H en at_ =>
  SE.of (pe_lc (own := [(y, j)]) hc en.nd (pi_SI (it := it)) (blkOk_by hok) (fun s H0 C cl fp => pg_name (X := X.blk s H0 scope (compEnvC scope cl C X.env) fp) (i := j) en.nd (by show X.N[j]? = some y; rw [← en.nm]; exact hj.ix) (hx cl C) (hf cl C)) (fun s H0 C cl fp => pts_STs s H0 C cl fp) (fun s H0 C cl fp => pe_SEb s H0 C cl fp) hs)
    (lc_read hl1 en at_ _ _ h (fun Dl acc vs F1 m1 H1 F' m' H' st hD s' hF hk hl hs r => let ⟨F2, st2, q⟩ := lc_frz (R := fun _ _ => True) st hD s' hF hk hl hs; ⟨_, F2, m', st2, q, r⟩))
end

/-! ### a def -/
def startR : List Str → List D → Rn
  | [], _ => []
  | x :: N, [] => (x, none) :: startR N []
  | x :: N, d :: ds => (x, some d) :: startR N ds
theorem startR_names : ∀ (N : List Str) (ds : List D), (startR N ds).map (·.1) = N
  | [], _ => rfl
  | x :: N, [] => by simp only [startR, List.map_cons, startR_names N []]
  | x :: N, d :: ds => by simp only [startR, List.map_cons, startR_names N ds]
theorem startR_envs {K : Frag} {F : Hp} : ∀ (N : List Str) (vs : List V) (ds : List D), vs.length ≤ N.length → Dens K F vs ds → Envs K F (start N vs) ((startR N ds).map (·.2))
  | N, _, _, hl, .nil => by
    refine ⟨?_, fun i d h => ?_⟩
    · have e := congrArg List.length (startR_names N [])
      rw [List.length_map] at e
      rw [List.length_map, e]
      unfold L2.start
      simp
    have key : ∀ (N : List Str) (i : Nat), ((startR N []).map (·.2))[i]? = some (some d) → False := by
      intro N
      induction N with
      | nil => intro i h; simp [startR] at h
      | cons x N ih =>
        intro i h
        cases i with
        | zero => simp [startR] at h
        | succ i => exact ih i (by simpa [startR] using h)
    exact (key N i h).elim
  | [], _, _, hl, .cons _ _ => by simp at hl
  | x :: N, v :: vs, d :: ds, hl, .cons q qs => by
    have ih := startR_envs (K := K) (F := F) N vs ds (by simpa using hl) qs
    have es : start (x :: N) (v :: vs) = some v :: start N vs := by
      unfold L2.start
      simp
    rw [es]
    refine ⟨by simp only [startR, List.map_cons, List.length_cons, ih.len], fun i e h => ?_⟩
    cases i with
    | zero =>
      have : e = d := by simp [startR] at h; exact h.symm
      subst this
      exact ⟨v, rfl, q⟩
    | succ i => exact ih.get i e (by simpa [startR] using h)
section
variable {P : Program} {w : World} {K : Frag} {mg : Str → Option Value} {base : Heap}
/-- THE RULE for a def that raises nothing -/
theorem def_ok {x qual : Str} {st : Stmt} {f : Addr} {fd : FuncData} {N ps : List Str} {k : Nat} {sp : SpD} (F : Fun K x qual st f fd) (S : FnScope N ps (defScope st)) (len : ∀ ds m R, sp ds m R → ds.length = ps.length)
    (body : ∀ (cdv : Value) (A : Around) (outer : List PySem.Env) (s : Shared) (H : Hp) (ds : List D) (m : Led) (R : D → Led → Prop), Room k (A.deeper (envOfC qual (defScope st) s.heap.objs.size f cdv)) → sp ds m R →
      SX ⟨(cxOf CX0 P w K mg base N qual (defScope st) f cdv A outer s H E0).nox, fun _ _ _ _ => False⟩ (defBody st) (startR N ds) m { nx := fun _ m2 => ∃ m3, m3.Sublist m2 ∧ R .non m3, rt := fun d m2 => ∃ m3, m3.Sublist m2 ∧ R d m3 }) : FnOk P w K mg base CX0 (k + 1) f fd ps (lift K sp) := by
  refine F.ok S (fun vs H Q E ⟨F0, m, ds, R, q, _, h, _⟩ => by rw [q.length]; exact len ds m R h) (fun cdv A outer s H vs Q E hr ⟨F0, m, ds, R, q, at_, h, k⟩ => ?_)
  refine ⟨_, pss_SS, ?_⟩
  have hb := body cdv A outer s H ds m R hr h
  have hl : vs.length ≤ N.length := by
    rw [q.length, len ds m R h]
    have := congrArg List.length S.pre
    rw [List.length_take] at this
    omega
  have en : DL.Env (cxOf CX0 P w K mg base N qual (defScope st) f cdv A outer s H E).nox F0 (start N vs) (startR N ds) := ⟨S.nd, startR_names N ds, startR_envs N vs ds hl q⟩
  refine (hb.run F0 (start N vs) H en (.quiet at_)).mono (fun σ2 H2 ⟨ρ2, F2, m2, s2, en2, m3, sl, r⟩ => ?_) (fun v H2 ⟨d, F2, m2, s2, q2, m3, sl, r⟩ => ?_) (fun _ _ ⟨_, _, _, _, _, z⟩ => z) (fun _ _ ⟨_, _, _, _, _, z⟩ => z)
  · exact k .non m3 .non F2 H2 r (s2.trans (Step.drop s2.at2 sl)) .non
  · exact k d m3 v F2 H2 r (s2.trans (Step.drop s2.at2 sl)) q2
end
/-- ghost: a list of the ledger is frozen between two statements -/
theorem s_freeze {X : CD} {sts : List Stmt} {ρ ρ' : Rn} {m : Led} {E : EndsD} {i n : Nat} {x : Str} {p : Addr} {ds : List D} (hm : m[n]? = some (p, .lst ds)) (hl : LookAt ρ i x (.ref p)) (hs : SetAt ρ i x (.lst ds) ρ') (h : SX X sts ρ' (m.eraseIdx n) E) : SX X sts ρ m E := .mk fun F σ H en at_ => by
  obtain ⟨F2, s2, q2⟩ := Step.freeze at_.toAt hm
  have en2 := (en.mono s2.ex).set hs q2
  obtain ⟨hN, v, e1, q⟩ := en.look hl
  cases q
  have e : σ.set i (some (.ref p)) = σ := by
    apply List.ext_getElem?
    intro j
    by_cases hj : i = j
    · subst hj
      rw [List.getElem?_set_self (List.getElem?_eq_some_iff.mp e1).1, e1]
    · rw [List.getElem?_set_ne hj]
  rw [e] at en2
  exact SSs.step s2 (h.run F2 σ H en2 (at_.to s2))
end DL


namespace DL
open PySem PySem.Spec PyProof.Rows L2 RZ
section
variable {X : CD} {a b e tg it : Expr} {es : List Expr} {ρ : Rn} {m : Led} {R : D → Led → Prop} {x : Str} {p pos tpos : Pos} {k n : Nat} {sp : SpD} {mg : Str → Option Value}
/-- built-ins by name: hm is found by its name -/
theorem c_cb {id : String} (hm : mg x = none) (hv : bootBuiltins x = some (.builtin id)) (h : AX X (e :: es) ρ m fun ds m1 => BX X (.builtin id) ds m1 R) (hX : X.mg = mg := by rfl) (hg : Gl X x := by rfl) (hn : x ≠ "__name__" := by decide) (hdb : (x == ("__debug__" : Str)) = false := by decide)
    (he : starEach (e :: es) X.env = (false, eval e X.env) :: starEach es X.env := by rfl) (hpl : (backTo pos (starEach es X.env)).any (·.1) = false := by rfl) : EX X (.Call (.Name x p) (e :: es) [] pos) ρ m R := by
  subst hX
  exact x_cb h hm hv hg hn hdb he hpl
theorem c_ct {T : String} (hm : mg x = none) (hv : bootBuiltins x = some (.type T)) (h : AX X (e :: es) ρ m fun ds m1 => BX X (.type T) ds m1 R) (hX : X.mg = mg := by rfl) (hg : Gl X x := by rfl) (hn : x ≠ "__name__" := by decide) (hdb : (x == ("__debug__" : Str)) = false := by decide)
    (he : starEach (e :: es) X.env = (false, eval e X.env) :: starEach es X.env := by rfl) (hpl : (backTo pos (starEach es X.env)).any (·.1) = false := by rfl) : EX X (.Call (.Name x p) (e :: es) [] pos) ρ m R := by
  subst hX
  exact x_ct h hm hv hg hn hdb he hpl
theorem c_ty {nn : String} (hm : mg x = none) (hv : bootBuiltins x = some (.type nn)) (kk : R (.ty nn) m) (hX : X.mg = mg := by rfl) (h : Gl X x := by rfl) (hn : x ≠ "__name__" := by decide) (hd : (x == ("__debug__" : Str)) = false := by decide) : EX X (.Name x pos) ρ m R := by
  subst hX
  exact x_ty kk hm hv h hn hd
theorem c_glob {K : Frag} {d : D} (hgc : GC K mg x d) (kk : R d m) (hX : X.mg = mg ∧ X.K = K := by exact ⟨rfl, rfl⟩) (h : Gl X x := by rfl) (hd : (x == ("__debug__" : Str)) = false := by decide) : EX X (.Name x pos) ρ m R := by
  obtain ⟨rfl, rfl⟩ := hX
  exact x_glob hgc kk h hd
theorem bt_int : bootBuiltins "int" = some (.type "int") := by decide +kernel
theorem bt_list : bootBuiltins "list" = some (.type "list") := by decide +kernel
theorem bt_tuple : bootBuiltins "tuple" = some (.type "tuple") := by decide +kernel
theorem bt_dict : bootBuiltins "dict" = some (.type "dict") := by decide +kernel
theorem bt_bool : bootBuiltins "bool" = some (.type "bool") := by decide +kernel
theorem bt_len : bootBuiltins "len" = some (.builtin "len") := by decide +kernel
theorem bt_max : bootBuiltins "max" = some (.builtin "max") := by decide +kernel
theorem bt_min : bootBuiltins "min" = some (.builtin "min") := by decide +kernel
theorem bt_sum : bootBuiltins "sum" = some (.builtin "sum") := by decide +kernel
theorem bt_all : bootBuiltins "all" = some (.builtin "all") := by decide +kernel
theorem bt_sorted : bootBuiltins "sorted" = some (.builtin "sorted") := by decide +kernel
theorem bt_isinstance : bootBuiltins "isinstance" = some (.builtin "isinstance") := by decide +kernel
end
section
variable {X : CD} {a b e tg it : Expr} {ρ : Rn} {m : Led} {R : List D → Led → Prop} {p pos tpos : Pos} {mg : Str → Option Value}
theorem j_range1 (hm : mg "range" = none) (h : EX X a ρ m fun d m1 => ∃ j : Int, d = .int j ∧ -100000 ≤ j ∧ j ≤ 100000 ∧ R (rangeD 0 j.toNat) m1) (hX : X.mg = mg := by rfl) (hg : Gl X "range" := by rfl) (hs : starEach [a] X.env = [(false, eval a X.env)] := by rfl) : IX X tg (.Call (.Name "range" p) [a] [] pos) ρ m R := by
  subst hX
  exact ix_range1 h hm hg hs
theorem j_range2 (hm : mg "range" = none) (h : EX X a ρ m fun d m1 => EX X b ρ m1 fun d2 m2 => ∃ i j : Int, d = .int i ∧ d2 = .int j ∧ (-100000 ≤ i ∧ i ≤ 100000 ∧ -100000 ≤ j ∧ j ≤ 100000) ∧ R (rangeD i (j - i).toNat) m2) (hX : X.mg = mg := by rfl) (hg : Gl X "range" := by rfl)
    (hs : starEach [a, b] X.env = [(false, eval a X.env), (false, eval b X.env)] := by rfl) (hs2 : starEach [b] X.env = [(false, eval b X.env)] := by rfl) (hs1 : starEach [a, b] X.env = (false, eval a X.env) :: starEach [b] X.env := by rfl) : IX X tg (.Call (.Name "range" p) [a, b] [] pos) ρ m R := by
  subst hX
  exact ix_range2 h hm hg hs hs2 hs1
theorem j_zip {elts : List Expr} {kk : Nat} (hm : mg "zip" = none) (h : EX X a ρ m fun d m1 => EX X b ρ m1 fun d2 m2 => ∃ as bs, ((d = .lst as ∧ d2 = .lst bs) ∨ (d = .tup as ∧ d2 = .tup bs)) ∧ R (zipD as bs) m2) (hX : X.mg = mg := by rfl) (hg : Gl X "zip" := by rfl)
    (hs : starEach [a, b] X.env = (false, eval a X.env) :: starEach [b] X.env := by rfl) (hs2 : starEach [b] X.env = (false, eval b X.env) :: starEach [] X.env := by rfl) (hpl : (backTo pos (starEach [b] X.env)).any (·.1) = false := by rfl) : IX X (.Tuple elts kk tpos) (.Call (.Name "zip" p) [a, b] [] pos) ρ m R := by
  subst hX
  refine .mk fun F σ H en at_ => ?_
  refine SI.of (pi_zipA hg hm (pa_cons (pe_SE (e := a)) (pa_cons (pe_SE (e := b)) pa_nil hs2) hs) hs hpl) (h.go en at_ fun v d F1 m1 H1 s1 en1 q r1 => r1.go en1 s1.at2 fun v2 d2 F2 m2 H2 s2 en2 q2 ⟨as, bs, ed, r⟩ => ?_)
  rcases ed with ⟨rfl, rfl⟩ | ⟨rfl, rfl⟩
  · cases q with
    | lst hq hqs =>
      cases q2 with
      | lst hq2 hqs2 =>
        have e1 := s2.ex
        refine ⟨_, _, _, _, rfl, .inl ⟨.inl (s2.at2.sub.rd (e1.rd hq)), .inl (s2.at2.sub.rd hq2), _, F2, m2, s1.trans s2, r, ?_⟩⟩
        refine Walk.mono (walk_zip (K := X.K) (n := (zipD as bs).length) (by rw [zipD_len, hqs.length, hqs2.length])) (fun H' e => ⟨.inl (e.rd (e1.rd hq)), .inl (e.rd hq2)⟩) fun i H' x H'' _ _ y => yd_pair (fun u w hu hw => ?_) y
        obtain ⟨d1, g1, q1⟩ := hqs.getV hu
        obtain ⟨d2, g2, q2⟩ := hqs2.getV hw
        exact ⟨d1, d2, q1.mono e1, q2, zipD_get g1 g2⟩
  · cases q with
    | tup hq hqs =>
      cases q2 with
      | tup hq2 hqs2 =>
        have e1 := s2.ex
        refine ⟨_, _, _, _, rfl, .inr ⟨s2.at2.sub.sqT (e1.sqT hq), s2.at2.sub.sqT hq2, _, F2, m2, s1.trans s2, r, ?_⟩⟩
        refine Walk.mono (walk_zipT (K := X.K) (n := (zipD as bs).length) (by rw [zipD_len, hqs.length, hqs2.length])) (fun H' e => ⟨e.sqT (e1.sqT hq), e.sqT hq2⟩) fun i H' x H'' _ _ y => yd_pair (fun u w hu hw => ?_) y
        obtain ⟨d1, g1, q1⟩ := hqs.getV hu
        obtain ⟨d2, g2, q2⟩ := hqs2.getV hw
        exact ⟨d1, d2, q1.mono e1, q2, zipD_get g1 g2⟩
end
/-! lists and tuples alike -/
def Seq (d : D) (ds : List D) : Prop := d = .lst ds ∨ d = .tup ds
def iSeq (X : CD) (it : Expr) : TI := fun σ H R => SE X it σ H fun x H1 => ∃ a, x = .ref a ∧ (((∃ xs, SqL X.K H1 a xs) ∧ R (Itl X.K a) H1) ∨ ((∃ xs, SqT X.K H1 a xs) ∧ R (Itt X.K a) H1))
/-! isinstance, by kinds -/
section
variable {X : CD} {m : Led} {R : D → Led → Prop}
end
/-! a statement, then the rest from a word between them -/
theorem S1.mono {X : CD} {st : Stmt} {ρ : Rn} {m : Led} {E E' : EndsD} (h : S1 X st ρ m E) (h1 : ∀ ρ m, E.nx ρ m → E'.nx ρ m) (h2 : ∀ d m, E.rt d m → E'.rt d m) (h3 : ∀ ρ m, E.bk ρ m → E'.bk ρ m) (h4 : ∀ ρ m, E.ct ρ m → E'.ct ρ m) : S1 X st ρ m E' := .mk fun F σ H en a =>
  (h.run F σ H en a).mono (fun σ H ⟨ρ, F2, m2, s, e, r⟩ => ⟨ρ, F2, m2, s, e, h1 _ _ r⟩) (fun v H ⟨d, F2, m2, s, e, r⟩ => ⟨d, F2, m2, s, e, h2 _ _ r⟩) (fun σ H ⟨ρ, F2, m2, s, e, r⟩ => ⟨ρ, F2, m2, s, e, h3 _ _ r⟩) (fun σ H ⟨ρ, F2, m2, s, e, r⟩ => ⟨ρ, F2, m2, s, e, h4 _ _ r⟩)
theorem Knows.mono {P : Program} {w : World} {K : Frag} {mg : Str → Option Value} {base : Heap} {j k n : Nat} {x : Str} {sp : SpD} (h : Knows P w K mg base j x n sp) (hk : j ≤ k) : Knows P w K mg base k x n sp := by
  obtain ⟨f, fd, ps, a, b, c, d, e⟩ := h.fn
  exact ⟨f, fd, ps, a.mono hk, b, c, d, e⟩
/-- the law's call -/
theorem law_start {K : Frag} {sp : SpD} {H : Hp} {a : Addr} {ns : List Int} {E : XK} (hS : SqL K H a (ns.map V.int)) (h : ∀ R : D → Led → Prop, (∀ m', R (.bl true) m') → sp [.lsk (ns.map D.int)] [] R) : lift K sp [.ref a] H (fun v _ => v = .bl true) E :=
  ⟨H, [], [.lsk (ns.map D.int)], fun d _ => d = .bl true, .cons (.lsk hS Dens.of_ints) .nil, ⟨Ex.refl _, fun _ h => (nomatch h), fun _ h => (nomatch h), List.nodup_nil⟩, h _ fun _ => rfl, fun d m2 v F2 H2 e _ q => by subst e; exact q.bl_inv⟩
end DL


namespace DL
open PySem PySem.Spec PySem.Calls PyProof.Rows L2 PySem.W

/-! ### an own exception class over ValueError whose __init__ begins with super().__init__(text) -/
/-- what the written part says of the class and of its __init__ -/
structure XIn (P : Program) (K : Frag) (mg : Str → Option Value) (C fI cc cda : Addr) (q : Str) (fd : FuncData) : Prop where
  T : OexC K C
  iC : findIn K (.ref C) "__init__" = some (some (.ref fI))
  tI : typeIn K (.ref fI) = some (.type "function")
  lf : ∃ oc od osl, K.lookup fI = some ⟨oc, od, .func fd, osl⟩
  lc : codeIn K (.ref cda) q = true
  fq : fd.qualname = q
  fc : fd.code = .ref cda
  fl : fd.closure = [(("__class__" : Str), cc)]
  fg : fd.globals = mainGlobals
  fb : fd.builtins = builtinsNs
  hcode : ∃ ccl cdd vs ccs file tf, K.lookup cda = some ⟨ccl, cdd, .fields vs, ccs⟩ ∧ vs[2]? = some (.str file tf) ∧ ((P.main.file : Str) == file) = true
  hcell : ∃ cl cld csl, K.lookup cc = some ⟨cl, cld, .cell (some (.ref C)), csl⟩
  sup : ks_superIn K C C "__init__" = some (some (.builtin "ValueError.__init__"))
  sub : mroIn K C (.ref C) = some true
  sVE : subIn K (.ref C) (.type "ValueError") = some true
  opq : nsIn K cStatics "thirdparty.any" = some none
  exi : excInitIn K C [.type "ValueError", .type "Exception", .type "BaseException", .type "object"] "ValueError.__new__" = true
  mgs : mg "super" = none
  top : (P.main.scope.names.lookup ("super" : Str)).isSome = false

section
variable {P : Program} {w : World} {K : Frag} {mg : Str → Option Value} {C fI cc cda : Addr} {q : Str} {fd : FuncData} {A : Around} {E : Value → Shared → Prop}
theorem call_mw {s : Shared} {u e t0 : Addr} {rest : List Value} {Q : Value → Shared → Prop} (Z : XIn P K mg C fI cc cda q fd) (X : K.In s.heap) (hu : s.heap.get? u = some (kxs_mw "ValueError.__init__" e)) (he : s.heap.get? e = some (HandSPX.excO C t0)) (hz : rest.length ≤ sizeLine)
    (h : ∀ h' t1, (∀ b o, b ≠ e → s.heap.get? b = some o → h'.get? b = some o) → h'.get? e = some (HandSPX.excO C t1) → Q .none { s with heap := h' }) : wpAny (model P w) A (call (.ref u) rest) Q E s := by
  obtain ⟨nm, N', qn, bs, bm, hdct, sn, sub, ab, col, dd, k0, k1, k2, k3, k5, hC, hT⟩ := excInit_of X Z.exi
  obtain ⟨hh, g, d, tk, os⟩ := s
  refine wpAny_call (codeAny_of_tree ?_)
  show wpAny _ A.in1 (callAny (.ref u) ⟨rest, []⟩) _ _ _
  simp only [callAny]
  refine wpAny_bind (wpAny_load hu ?_)
  simp only [kxs_mw, show (Value.type "method-wrapper" == Value.type "method" || Value.type "method-wrapper" == Value.type "builtin_function_or_method" || Value.type "method-wrapper" == Value.type "method-wrapper") = true by decide, if_true]
  refine KFB.if_so (by decide) ?_
  refine wpAny_bind (check_bound_init F.excBase_ValueError.toExcCallFacts hC he rfl ?_)
  refine wpAny_bind (wpAny_pure (wpAny_pure ?_))
  refine ⟨plainId_quiet F.excBase_ValueError.init.plain _, codeAny_builtin F.excBase_ValueError.initEntry ?_⟩
  exact exc_init_tree (cls := .ref C) (t0 := t0) (dv := none) (c2 := .none) (c3 := .none) (b4 := .bool false) he hz fun h' k e' t' => h h' _ k e'

/-- the statement super().__init__(text) -/
theorem super_stmt {s : Shared} {body : List Stmt} {L e t0 : Addr} {m mb : Str → Option Value} {ar : Arg} {msg : Str} {j : Nat} {p0 p1 p2 p3 p4 p5 : Pos} {Q : Flow → Shared → Prop} {pl : Sem Bool} (Z : XIn P K mg C fI cc cda q fd) (X : K.In s.heap)
    (glob : s.heap.Ns mainGlobals mg) (blt : s.heap.Ns builtinsNs mb) (hmb : mb "super" = bootBuiltins "super")
    (hks : fd.scope.names.lookup ("super" : Str) = some .globalImplicit) (hkc : fd.scope.names.lookup ("__class__" : Str) = some .free) (hka : fd.scope.names.lookup ar.arg = some .local) (hk : fd.scope.kind = .function)
    (hp : (fd.params.posonlyargs ++ fd.params.args).head? = some ar) (ns : s.heap.Ns L m) (hv : m ar.arg = some (.ref e)) (he : s.heap.get? e = some (HandSPX.excO C t0))
    (hev : eval (.Call (.Attribute (.Call (.Name "super" p0) [] [] p1) "__init__" p2) [.Constant (.str msg) j p3] [] p4) (callEnv fd L fI) = (do
      let ov ← attributeBase (.Call (.Name "super" p0) [] [] p1) "__init__" (callEnv fd L fI) (eval (.Call (.Name "super" p0) [] [] p1) (callEnv fd L fI))
      standAt p2.atName
      let (f, first) ← holding [ov] (getMethod ov "__init__" pl)
      callWith p4 f first (backTo p4 (starEach [.Constant (.str msg) j p3] (callEnv fd L fI))) []))
    (h : ∀ h' t1 tk, (∀ b o, b ≠ e → s.heap.get? b = some o → h'.get? b = some o) → h'.get? e = some (HandSPX.excO C t1) → Q .next { s with heap := h', toks := tk }) :
    _root_.PySem.wpAt (model P w) A (.func body (callEnv fd L fI)) (exec (.Expr (.Call (.Attribute (.Call (.Name "super" p0) [] [] p1) "__init__" p2) [.Constant (.str msg) j p3] [] p4) p5) (callEnv fd L fI)) Q E s := by
  obtain ⟨oc, od, osl, lf⟩ := Z.lf
  obtain ⟨ccl, cdd, vs, ccs, file, tf, lco, hvs, hfile⟩ := Z.hcode
  obtain ⟨cl, cld, csl, lce⟩ := Z.hcell
  have hc0 : ∃ cd, clsIn K C = some cd := by
    cases z : clsIn K C with
    | some cd => exact ⟨cd, rfl⟩
    | none => have := Z.sup; unfold ks_superIn at this; rw [z] at this; cases this
  obtain ⟨cd, hcd⟩ := hc0
  obtain ⟨oD, hD1, hD2⟩ : ∃ oD, s.heap.get? C = some oD ∧ oD.data = .cls cd := by
    have hcd' := hcd
    unfold clsIn at hcd'
    split at hcd'
    · rename_i c d cd' sl ho
      cases hcd'
      exact ⟨_, X _ _ ho, rfl⟩
    · cases hcd'
  have hsup := Z.sup
  unfold ks_superIn at hsup
  rw [hcd, Option.bind_some] at hsup
  have neC : e ≠ C := fun z => by
    rw [z, hD1] at he
    cases he
    cases hD2
  refine ks_wpAt_Expr_any (hi := by show (fd.scope.kind == .module && _) = false; rw [hk]; rfl) ?_
  refine ks_wpAt_MethodCall (he := hev) ?_
  refine ks_wpAt_super_base (env := callEnv fd L fI) hks hkc (by decide) rfl (X _ _ lf) rfl hp Z.fc (X _ _ lco) rfl hvs hfile Z.top ?_
  have hgl : (callEnv fd L fI).globals = mainGlobals := Z.fg
  have hbu : (callEnv fd L fI).builtins = builtinsNs := Z.fb
  refine ks_loadName_global hk hks (loadGlobal_builtin (env := callEnv fd L fI) (by rw [hgl]; exact glob) Z.mgs (by rw [hbu]; exact blt) (hmb.trans (show bootBuiltins "super" = some (.type "super") by decide +kernel)) ⟨rfl, ?_⟩)
  refine wpAny_loadName_free hk hkc (show (callEnv fd L fI).cells.lookup ("__class__" : Str) = some cc by (show List.lookup _ fd.closure = _; rw [Z.fl]; rfl)) ⟨_, X _ _ lce, rfl⟩ ?_
  refine wpAny_loadName_local hk hka ns hv ?_
  refine ks_wpAny_isType_cls hD1 hD2 ⟨rfl, ?_⟩
  obtain ⟨hh, g, d, tk, os⟩ := s
  refine ks_wpAny_call_super hD1 hD2 he rfl (fun c z => by cases z) (looks_mroIn X Z.sub) (fun h1 e1 k1 => ?_)
  have X1 : K.In h1 := X.keeps k1
  have he1 : h1.get? e = some (HandSPX.excO C t0) := k1 _ _ he
  have LI : Looks (model P w) h1 (isInstance (.ref e) (.type "ValueError")) true := by
    have I : InstAt h1 e (HandSPX.excO C t0) C none := ⟨he1, rfl, rfl, trivial⟩
    exact I.type.andThen (looks_subIn X1 Z.sVE)
  refine kxs_getMethod kxs_ValueError e1 (looks_opaque X1 Z.opq) (l₀ := cd.mro) (fun A Q E s k q => wpAny_bind ((looks_clsIn X1 hcd) A _ E s k (wpAny_pure q))) rfl X1 hsup LI neC (by decide) ?_
  have hm : (h1.push (kxs_mw "ValueError.__init__" e)).get? h1.objs.size = some (kxs_mw "ValueError.__init__" e) := Heap.get?_push_at rfl rfl
  have k2 : ∀ b o, h1.get? b = some o → (h1.push (kxs_mw "ValueError.__init__" e)).get? b = some o := fun b o z => Heap.get?_push_of_some _ z
  refine kxs_callWith (i := "ValueError.__init__") (x := e) rfl (evalArgs_plain ?_)
  refine spliced_more (wpAny_Constant_str (spliced_none ?_)) rfl
  refine ⟨hm, ?_⟩
  show wpAny _ _ (call (.ref h1.objs.size) _) _ _ _
  refine call_mw (s := ⟨h1.push (kxs_mw "ValueError.__init__" e), g, d, _, os⟩) Z (X1.keeps k2) hm (k2 _ _ he1) (by show 1 ≤ sizeLine; rw [sizeLine_eq]; omega) fun h' t1 k3 e3 => ?_
  exact h h' t1 _ (fun b o hb z => k3 b o hb (k2 _ _ (k1 _ _ z))) e3

/-- the scope of such an __init__ -/
structure XSc (fd : FuncData) (sf : Str) : Prop where
  ks : fd.scope.names.lookup ("super" : Str) = some .globalImplicit
  kc : fd.scope.names.lookup ("__class__" : Str) = some .free
  ka : fd.scope.names.lookup sf = some .local
  kk : fd.scope.kind = .function
  hp : ∃ ar : Arg, (fd.params.posonlyargs ++ fd.params.args).head? = some ar ∧ ar.arg = sf
  cell : ∀ x ∈ fd.scope.names, x.2 ≠ .cell
  co : fd.scope.isCoroutine = false
  gen : fd.scope.isGenerator = false
def supCall (msg : Str) (j : Nat) (p0 p1 p2 p3 p4 : Pos) : Expr := .Call (.Attribute (.Call (.Name "super" p0) [] [] p1) "__init__" p2) [.Constant (.str msg) j p3] [] p4
/-- how the call is read -/
def SupEv (fd : FuncData) (fI : Addr) (msg : Str) (j : Nat) (p0 p1 p2 p3 p4 : Pos) : Prop := ∃ pl : Sem Bool, ∀ L, eval (.Call (.Attribute (.Call (.Name "super" p0) [] [] p1) "__init__" p2) [.Constant (.str msg) j p3] [] p4) (callEnv fd L fI) = (do
      let ov ← attributeBase (.Call (.Name "super" p0) [] [] p1) "__init__" (callEnv fd L fI) (eval (.Call (.Name "super" p0) [] [] p1) (callEnv fd L fI))
      standAt p2.atName
      let (f, first) ← holding [ov] (getMethod ov "__init__" pl)
      callWith p4 f first (backTo p4 (starEach [.Constant (.str msg) j p3] (callEnv fd L fI))) [])
theorem ns_keep {h h' : Heap} {L e : Addr} {m : Str → Option Value} (ns : h.Ns L m) (ne : L ≠ e) (k : ∀ b o, b ≠ e → h.get? b = some o → h'.get? b = some o) : h'.Ns L m := by
  obtain ⟨o, es, ep, e1, r⟩ := ns
  exact ⟨o, es, ep, k _ _ ne e1, r⟩
theorem init_call0 {s : Shared} {R : Result → Shared → Prop} {e t0 : Addr} {mb : Str → Option Value} {sf msg : Str} {j : Nat} {p0 p1 p2 p3 p4 p5 : Pos} (Z : XIn P K mg C fI cc cda q fd) (X : K.In s.heap) (lim : s.heap.NoLimit)
    (glob : s.heap.Ns mainGlobals mg) (blt : s.heap.Ns builtinsNs mb) (hmb : mb "super" = bootBuiltins "super") (room : A.depth < recursionLimit) (S : XSc fd sf)
    (hev : SupEv fd fI msg j p0 p1 p2 p3 p4) (hbody : fd.body = .stmts [.Expr (.Call (.Attribute (.Call (.Name "super" p0) [] [] p1) "__init__" p2) [.Constant (.str msg) j p3] [] p4) p5])
    (hbind : BindsTo s fd ⟨[.ref e], []⟩ [(sf, .ref e)]) (he : s.heap.get? e = some (HandSPX.excO C t0))
    (h : ∀ h' t1 tk, (∀ b o, b ≠ e → s.heap.get? b = some o → h'.get? b = some o) → h'.get? e = some (HandSPX.excO C t1) → R (.ok (.ret .none)) { s with heap := h', toks := tk }) :
    codeAny (model P w) A (.call (.ref fI) ⟨[.ref e], []⟩) R s := by
  obtain ⟨oc, od, osl, lf⟩ := Z.lf
  obtain ⟨pl, hev⟩ := hev
  obtain ⟨ar, hp, har⟩ := S.hp
  have hcd : s.heap.CodeRec fd.code fd.qualname := by rw [Z.fc, Z.fq]; exact codeRec_of X Z.lc
  refine ks_codeAny_call_defAt (fd := fd) room (X _ _ lf) rfl lim hcd hbody hbind S.cell (fun x hx => by rw [List.mem_singleton.mp hx]; exact S.ka) (fun h0 ns k0 => ?_) S.co S.gen S.kk
  have he0 := k0 _ _ he
  refine ks_wpAt_execs_cons ?_
  refine super_stmt (s := { s with heap := h0, toks := s.toks + 1 }) (ar := ar) (e := e) (pl := pl) Z (X.keeps k0) (glob.keeps k0) (blt.keeps k0) hmb S.ks S.kc (by rw [har]; exact S.ka) S.kk hp ns (by rw [har]; simp) he0 (hev _) fun h' t1 tk k e1 => ?_
  exact wpAt_of_wpAny (wpAny_execs_nil (h h' t1 tk (fun b o hb z => k b o hb (k0 _ _ z)) e1))
theorem init_call1 {s : Shared} {R : Result → Shared → Prop} {e t0 : Addr} {u : Value} {mb : Str → Option Value} {sf par f msg : Str} {j : Nat} {p0 p1 p2 p3 p4 p5 q1 q2 q3 q4 : Pos} (Z : XIn P K mg C fI cc cda q fd) (X : K.In s.heap) (lim : s.heap.NoLimit)
    (glob : s.heap.Ns mainGlobals mg) (blt : s.heap.Ns builtinsNs mb) (hmb : mb "super" = bootBuiltins "super") (room : A.depth < recursionLimit) (S : XSc fd sf)
    (hev : SupEv fd fI msg j p0 p1 p2 p3 p4) (hpar : fd.scope.names.lookup par = some .local) (hne : par ≠ sf) (hno : findIn K (.ref C) f = some none) (hd1 : (sf == ("__debug__" : Str)) = false) (hd2 : (par == ("__debug__" : Str)) = false)
    (hsw : ∀ L, swapsWith (.Name par q4) (some (.Attribute (.Name sf q1) f q2)) q3.line (callEnv fd L fI) = pure false)
    (hbody : fd.body = .stmts [.Expr (.Call (.Attribute (.Call (.Name "super" p0) [] [] p1) "__init__" p2) [.Constant (.str msg) j p3] [] p4) p5, .Assign [.Attribute (.Name sf q1) f q2] (.Name par q4) q3])
    (heK : ∀ o, K.lookup e ≠ some o) (hbind : BindsTo s fd ⟨[.ref e, u], []⟩ [(sf, .ref e), (par, u)]) (he : s.heap.get? e = some (HandSPX.excO C t0))
    (h : ∀ h' t1 tk dx, (∀ b o, b ≠ e → s.heap.get? b = some o → h'.get? b = some o) → s.heap.objs.size ≤ dx → dx ≠ e → h'.get? e = some { cls := .ref C, dict := some dx, data := .fields #[.ref t1, .none, .none, .none, .bool false, .none] } → h'.Ns1 dx (fun y => if y = f then some u else none) → R (.ok (.ret .none)) { s with heap := h', toks := tk }) :
    codeAny (model P w) A (.call (.ref fI) ⟨[.ref e, u], []⟩) R s := by
  obtain ⟨oc, od, osl, lf⟩ := Z.lf
  obtain ⟨pl, hev⟩ := hev
  obtain ⟨ar, hp, har⟩ := S.hp
  obtain ⟨nm, qq, N, bs, bm, sn, sub, ab, col, dd, k0', k1, k2, k3, k5, hC, hbm⟩ := Z.T.cls
  have hcl : PySem.W.clsIn K C = some { name := nm, bases := bs, mro := .ref C :: bm, ns := N, qualname := qq, hasDict := true, slotNames := sn, subclasses := sub, abstract := ab, collection := col, hasDel := false } := by unfold PySem.W.clsIn; rw [hC] <;> rfl
  have hcd : s.heap.CodeRec fd.code fd.qualname := by rw [Z.fc, Z.fq]; exact codeRec_of X Z.lc
  refine ks_codeAny_call_defAt (fd := fd) room (X _ _ lf) rfl lim hcd hbody hbind S.cell (fun x hx => by
    rcases List.mem_cons.mp hx with z | z
    · rw [z]; exact S.ka
    · rw [List.mem_singleton.mp z]; exact hpar) (fun h0 ns k0 => ?_) S.co S.gen S.kk
  have he0 := k0 _ _ he
  have lkS : List.lookup sf [(par, u), (sf, Value.ref e)] = some (.ref e) := by
    rw [List.lookup_cons, show (sf == par) = false from beq_false_of_ne (Ne.symm hne)]; simp
  have lkP : List.lookup par [(par, u), (sf, Value.ref e)] = some u := by simp
  refine ks_wpAt_execs_cons ?_
  refine super_stmt (s := { s with heap := h0, toks := s.toks + 2 }) (ar := ar) (e := e) (pl := pl) Z (X.keeps k0) (glob.keeps k0) (blt.keeps k0) hmb S.ks S.kc (by rw [har]; exact S.ka) S.kk hp ns (by rw [har]; exact lkS) he0 (hev _) fun h' t1 tk k e1 => ?_
  have neL : s.heap.objs.size ≠ e := Nat.ne_of_gt (Heap.lt_size he)
  have ns' : h'.Ns s.heap.objs.size (fun x => [(par, u), (sf, Value.ref e)].lookup x) := ns_keep ns neL k
  refine ks_wpAt_execs_cons (ks_wpAt_Assign_Attr (wpAt_of_wpAny ?_) (hsw _))
  refine ldc S.kk hpar ns' lkP ?_ hd2
  refine ldc S.kk S.ka ns' lkS ?_ hd1
  have X' : K.In h' := fun b o z => k b o (fun y => heK o (y ▸ z)) (k0 _ _ (X b o z))
  refine PySem.W.set_plain X' (ox := { cls := .ref C, dict := none, data := .fields #[.ref t1, .none, .none, .none, .bool false, .none] }) (od := none) ⟨e1, rfl, rfl, trivial⟩ Z.T.sa ?_
  refine PySem.HandSPX.exc_osa X' e1 hcl (show PySem.HandSPX.refsVE (.ref C :: bm) = true from hbm) rfl hno (fun h2 tk' dx kk dn dne hx hn => ?_)
  refine wpAt_of_wpAny (wpAny_execs_nil (h h2 t1 tk' dx (fun b o hb z => kk b o hb (k b o hb (k0 _ _ z))) ?_ dne hx hn))
  obtain ⟨oL, es, ep, hL, _⟩ := ns'
  exact Nat.le_trans (Nat.le_of_lt (Heap.lt_size hL)) dn

/-- a class of exceptions as the data layer knows it: its text, the field (if it has one) -/
structure XK0 (P : Program) (w : World) (K : Frag) (mg : Str → Option Value) (nm : Str) (C : Addr) : Prop where
  mgC : mg nm = some (.ref C)
  T : OexC K C
  run : ∀ (A : Around) (s : Shared) (Q : Value → Shared → Prop) (E : Value → Shared → Prop) (mb : Str → Option Value), K.In s.heap → (∀ o, s.heap.objs.size ≤ s.heap.objs.size + 1 → K.lookup (s.heap.objs.size + 1) ≠ some o) → s.heap.NoLimit → s.heap.Ns mainGlobals mg → s.heap.Ns builtinsNs mb → mb "super" = bootBuiltins "super" → Room 1 A →
    (∀ h' t1 tk, (∀ b o, s.heap.get? b = some o → h'.get? b = some o) → h'.get? (s.heap.objs.size + 1) = some (HandSPX.excO C t1) → Q (.ref (s.heap.objs.size + 1)) { s with heap := h', toks := tk }) →
    wpAny (model P w) A (call (.ref C) []) Q E s
structure XK1 (P : Program) (w : World) (K : Frag) (mg : Str → Option Value) (nm f : Str) (C : Addr) : Prop where
  mgC : mg nm = some (.ref C)
  T : OexC K C
  run : ∀ (A : Around) (s : Shared) (u : Value) (Q : Value → Shared → Prop) (E : Value → Shared → Prop) (mb : Str → Option Value), K.In s.heap → (∀ o, s.heap.objs.size ≤ s.heap.objs.size + 1 → K.lookup (s.heap.objs.size + 1) ≠ some o) → s.heap.NoLimit → s.heap.Ns mainGlobals mg → s.heap.Ns builtinsNs mb → mb "super" = bootBuiltins "super" → Room 1 A →
    (∀ h' t1 tk dx, (∀ b o, s.heap.get? b = some o → h'.get? b = some o) → s.heap.objs.size ≤ dx → dx ≠ s.heap.objs.size + 1 → h'.get? (s.heap.objs.size + 1) = some { cls := .ref C, dict := some dx, data := .fields #[.ref t1, .none, .none, .none, .bool false, .none] } → h'.Ns1 dx (fun y => if y = f then some u else none) → Q (.ref (s.heap.objs.size + 1)) { s with heap := h', toks := tk }) →
    wpAny (model P w) A (call (.ref C) [u]) Q E s
theorem xk0_mk {nm sf msg : Str} {j : Nat} {p0 p1 p2 p3 p4 p5 : Pos} (mgC : mg nm = some (.ref C)) (Z : XIn P K mg C fI cc cda q fd) (S : XSc fd sf) (hev : SupEv fd fI msg j p0 p1 p2 p3 p4)
    (hbody : fd.body = .stmts [.Expr (.Call (.Attribute (.Call (.Name "super" p0) [] [] p1) "__init__" p2) [.Constant (.str msg) j p3] [] p4) p5]) (hbind : ∀ s e, BindsTo s fd ⟨[e], []⟩ [(sf, e)]) : XK0 P w K mg nm C := by
  refine ⟨mgC, Z.T, fun A s Q E mb X hK lim glob blt hmb room hq => ?_⟩
  obtain ⟨nm', qq, N, bs, bm, sn, sub, ab, col, dd, k0', k1, k2, k3, k5, hC, hbm⟩ := Z.T.cls
  obtain ⟨hp, g, d, tk, os⟩ := s
  have kk : ∀ b o, hp.get? b = some o → ((hp.push (PySem.W.kdv_tup [])).push (PySem.HandSPX.excO C hp.objs.size)).get? b = some o := fun b o e => Heap.get?_push_of_some _ (Heap.get?_push_of_some _ e)
  have hget : ((hp.push (PySem.W.kdv_tup [])).push (PySem.HandSPX.excO C hp.objs.size)).get? (hp.objs.size + 1) = some (PySem.HandSPX.excO C hp.objs.size) := by heap_get
  refine wpAny_call (PySem.HandSPX.call_own F.excBase_ValueError (fun Y => PySem.HandSPX.refsVE_contains Y bm hbm) (X _ _ hC) (PySem.W.looks_findIn X Z.iC) (fun self => PySem.W.bind_fn X self Z.tI) (Nat.zero_le _) ?_)
  refine init_call0 (s := ⟨(hp.push (PySem.W.kdv_tup [])).push (PySem.HandSPX.excO C hp.objs.size), g, d, tk, os⟩) Z (X.keeps kk) (lim.keeps kk) (glob.keeps kk) (blt.keeps kk) hmb (room.make C [] []).depth S hev hbody (hbind _ _) hget fun h' t1 tk' k e1 => ?_
  refine ⟨rfl, hq h' t1 tk' (fun b o z => k b o (fun y => ?_) (kk b o z)) e1⟩
  have := Heap.lt_size z
  rw [y] at this
  exact absurd this (show ¬ hp.objs.size + 1 < hp.objs.size by omega)
theorem xk1_mk {nm sf par f msg : Str} {j : Nat} {p0 p1 p2 p3 p4 p5 q1 q2 q3 q4 : Pos} (mgC : mg nm = some (.ref C)) (Z : XIn P K mg C fI cc cda q fd) (S : XSc fd sf) (hev : SupEv fd fI msg j p0 p1 p2 p3 p4)
    (hpar : fd.scope.names.lookup par = some .local) (hne : par ≠ sf) (hno : findIn K (.ref C) f = some none) (hd1 : (sf == ("__debug__" : Str)) = false) (hd2 : (par == ("__debug__" : Str)) = false)
    (hsw : ∀ L, swapsWith (.Name par q4) (some (.Attribute (.Name sf q1) f q2)) q3.line (callEnv fd L fI) = pure false)
    (hbody : fd.body = .stmts [.Expr (.Call (.Attribute (.Call (.Name "super" p0) [] [] p1) "__init__" p2) [.Constant (.str msg) j p3] [] p4) p5, .Assign [.Attribute (.Name sf q1) f q2] (.Name par q4) q3])
    (hbind : ∀ s e u, BindsTo s fd ⟨[e, u], []⟩ [(sf, e), (par, u)]) : XK1 P w K mg nm f C := by
  refine ⟨mgC, Z.T, fun A s u Q E mb X hK lim glob blt hmb room hq => ?_⟩
  obtain ⟨nm', qq, N, bs, bm, sn, sub, ab, col, dd, k0', k1, k2, k3, k5, hC, hbm⟩ := Z.T.cls
  obtain ⟨hp, g, d, tk, os⟩ := s
  have kk : ∀ b o, hp.get? b = some o → ((hp.push (PySem.W.kdv_tup [u])).push (PySem.HandSPX.excO C hp.objs.size)).get? b = some o := fun b o e => Heap.get?_push_of_some _ (Heap.get?_push_of_some _ e)
  have hget : ((hp.push (PySem.W.kdv_tup [u])).push (PySem.HandSPX.excO C hp.objs.size)).get? (hp.objs.size + 1) = some (PySem.HandSPX.excO C hp.objs.size) := by heap_get
  refine wpAny_call (PySem.HandSPX.call_own F.excBase_ValueError (fun Y => PySem.HandSPX.refsVE_contains Y bm hbm) (X _ _ hC) (PySem.W.looks_findIn X Z.iC) (fun self => PySem.W.bind_fn X self Z.tI) (by show 1 ≤ sizeLine; rw [sizeLine_eq]; omega) ?_)
  refine init_call1 (s := ⟨(hp.push (PySem.W.kdv_tup [u])).push (PySem.HandSPX.excO C hp.objs.size), g, d, tk, os⟩) Z (X.keeps kk) (lim.keeps kk) (glob.keeps kk) (blt.keeps kk) hmb (room.make C [u] []).depth S hev hpar hne hno hd1 hd2 hsw hbody (fun o => hK o (Nat.le_succ _)) (hbind _ _ _) hget fun h' t1 tk' dx k dn dne e1 n1 => ?_
  refine ⟨rfl, hq h' t1 tk' dx (fun b o z => k b o (fun y => ?_) (kk b o z)) ?_ dne e1 n1⟩
  · have := Heap.lt_size z
    rw [y] at this
    exact absurd this (show ¬ hp.objs.size + 1 < hp.objs.size by omega)
  · have dn' : ((hp.push (PySem.W.kdv_tup [u])).push (PySem.HandSPX.excO C hp.objs.size)).objs.size ≤ dx := dn
    rw [Heap.size_push, Heap.size_push] at dn'
    show hp.objs.size ≤ dx
    omega
end
end DL


namespace DL
open PySem PySem.Spec PySem.Calls PyProof.Rows L2

/-! ### raise of an own class -/
section
variable {X : Cx} {nm f : Str} {C : Addr} {e : Expr} {p pos : Pos}
theorem pmk0 (G : XK0 X.prog X.w X.K X.mg nm C) (hr : Room 1 X.A) (hg : Gl X nm) (hdb : (nm == ("__debug__" : Str)) = false := by decide) : PMk X (.Call (.Name nm p) [] [] pos) (fun _ H Q => Q (.ref C) none H) := by
  intro pins s σ H Q I h
  refine wpAny_Call_Name_kw (ld_glob I hg G.mgC ?_ hdb)
  refine PySem.W.callWith_K0 I.kIn G.T.kC ?_
  obtain ⟨mb, bN, hb⟩ := I.ok.mod.blt
  have ks : ∀ b o, X.base.get? b = some o → s.heap.get? b = some o := fun b o z => (I.bs b o z).1
  refine G.run X.A s _ _ mb I.kIn (fun o _ z => ?_) (I.ok.mod.nolimit.keeps ks) (I.ok.mod.glob.keeps ks) (bN.keeps ks) (hb _ (by decide)) hr fun h' t1 tk k e1 => ?_
  · exact absurd (Heap.lt_size (I.kIn _ _ z)) (Nat.not_lt_of_le (Nat.le_succ _))
  · have hn : s.heap.get? (s.heap.objs.size + 1) = none := by
      cases z : s.heap.get? (s.heap.objs.size + 1) with
      | none => rfl
      | some o => exact absurd (Heap.lt_size z) (Nat.not_lt_of_le (Nat.le_succ _))
    exact ⟨_, _, _, s, H, .ref C, none, rfl, I, k, hn, e1, ⟨rfl, rfl⟩, rfl, rfl, I.hok.fresh (Nat.le_succ _), rfl, I.bare, raises_own G.T.exC G.T.tyC, h⟩
theorem pmk1 (G : XK1 X.prog X.w X.K X.mg nm f C) (hr : Room 1 X.A) (hg : Gl X nm) (hdb : (nm == ("__debug__" : Str)) = false := by decide)
    (hst : starEach [e] X.env = (false, eval e X.env) :: starEach [] X.env := by rfl) :
    PMk X (.Call (.Name nm p) [e] [] pos) (fun σ H Q => SE X e σ H fun v H1 => ∀ dd, H1 dd = none → Q (.ref C) (some dd) (upd H1 dd (.xd [(f, v)]))) := by
  intro pins s σ H Q I h
  refine wpAny_Call_Name_kw (ld_glob I hg G.mgC ?_ hdb)
  have ha : PA X [e] (tCons (SE X e) tNil) := pa_cons pe_SE pa_nil hst
  have h0 : tCons (SE X e) tNil σ H fun vs H1 => ∃ v, vs = [v] ∧ ∀ dd, H1 dd = none → Q (.ref C) (some dd) (upd H1 dd (.xd [(f, v)])) := by
    exact SE.mono h fun v H1 q => ⟨v, rfl, q⟩
  refine PySem.W.callWith_K (h₀ := X.base) I.ok.mod.kin G.T.kC (thn (ha.run pos pins s σ H _ I h0) fun us s1 hh => ?_) hst rfl
  obtain ⟨vs, H1, I1, r1, v, ev, q⟩ := hh
  subst ev
  refine ⟨I1.kIn, ?_⟩
  cases r1 with
  | cons ru rn =>
    rename_i u us'
    cases rn
    show wpAny _ _ (call (.ref C) [u]) _ _ _
    obtain ⟨mb, bN, hb⟩ := I1.ok.mod.blt
    have ks : ∀ b o, X.base.get? b = some o → s1.heap.get? b = some o := fun b o z => (I1.bs b o z).1
    refine G.run X.A s1 u _ _ mb I1.kIn (fun o _ z => ?_) (I1.ok.mod.nolimit.keeps ks) (I1.ok.mod.glob.keeps ks) (bN.keeps ks) (hb _ (by decide)) hr fun h' t1 tk dx k dn dne e1 n1 => ?_
    · exact absurd (Heap.lt_size (I1.kIn _ _ z)) (Nat.not_lt_of_le (Nat.le_succ _))
    · obtain ⟨G', g1, g2⟩ := restrict h' fun b => decide (b ≠ s1.heap.objs.size + 1)
      have gk : ∀ b, b ≠ s1.heap.objs.size + 1 → G'.get? b = h'.get? b := fun b hb => g1 b (decide_eq_true hb)
      have ge : G'.get? (s1.heap.objs.size + 1) = none := g2 _ (by simp)
      have kG : ∀ b o, s1.heap.get? b = some o → G'.get? b = some o := fun b o z => by
        rw [gk b (fun y => absurd (Heap.lt_size (y ▸ z)) (Nat.not_lt_of_le (Nat.le_succ _)))]
        exact k b o z
      have nsG : G'.Ns1 dx (fun y => if y = f then some u else none) := by
        obtain ⟨o, es, ep, z, r⟩ := n1
        exact ⟨o, es, ep, by rw [gk dx dne]; exact z, r⟩
      have J : Inv X pins σ (upd H1 dx (.xd [(f, v)])) { s1 with heap := G', toks := tk } := I1.laid kG dn ⟨_, nsG, fun y => by
        show RelO (List.lookup y [(f, v)]) (if y = f then some u else none)
        by_cases hy : y = f
        · subst hy
          rw [if_pos rfl]
          simp [List.lookup_cons]
          exact ru
        · rw [if_neg hy, List.lookup_cons, show (y == f) = false from beq_false_of_ne hy]
          trivial⟩
      refine ⟨_, _, _, { s1 with heap := G', toks := tk }, _, .ref C, some dx, rfl, J, fun b o z => ?_, ge, e1, ⟨rfl, rfl⟩, rfl, rfl, ?_, rfl, I1.bare, raises_own G.T.exC G.T.tyC, q dx (I1.hok.fresh dn)⟩
      · by_cases hb : b = s1.heap.objs.size + 1
        · have z' : G'.get? b = some o := z
          rw [hb, ge] at z'
          cases z'
        · exact (gk b hb).symm.trans z
      · rw [upd_ne (Ne.symm dne)]
        exact I1.hok.fresh (Nat.le_succ _)
end
section
variable {X : CD} {nm f : Str} {C : Addr} {e : Expr} {p pos pos2 : Pos} {ρ : Rn} {m : Led} {E : EndsD}
theorem s_raise0 (G : XK0 X.prog X.w X.K X.mg nm C) (hr : Room 1 X.A) (h : X.xq nm none ρ m) (hc : X.calm = true := by rfl) (hg : Gl X nm := by rfl) (hdb : (nm == ("__debug__" : Str)) = false := by decide) : S1 X (.Raise (some (.Call (.Name nm p) [] [] pos)) none pos2) ρ m E := .mk fun F σ H en at_ =>
  SS.of (ps_raise hc at_.tk (pmk0 G hr hg hdb)) ⟨nm, C, none, ρ, F, m, G.mgC, rfl, Step.refl at_.toAt, en, rfl, h⟩
theorem s_raise1 (G : XK1 X.prog X.w X.K X.mg nm f C) (hr : Room 1 X.A) (h : EX X e ρ m fun d m1 => X.xq nm (some (f, d)) ρ m1) (hc : X.calm = true := by rfl) (hg : Gl X nm := by rfl) (hdb : (nm == ("__debug__" : Str)) = false := by decide)
    (hst : starEach [e] X.env = (false, eval e X.env) :: starEach [] X.env := by rfl) : S1 X (.Raise (some (.Call (.Name nm p) [e] [] pos)) none pos2) ρ m E := .mk fun F σ H en at_ =>
  SS.of (ps_raise hc at_.tk (pmk1 G hr hg hdb hst)) (h.go en at_ fun v d F1 m1 H1 s1 en1 q r => fun dd hdd => by
    have nw := Step.new (o := .xd [(f, v)]) s1.at2.toAt hdd
    exact ⟨nm, C, some (f, d), ρ, _, m1, G.mgC, rfl, s1.trans nw, en1.mono nw.ex, ⟨dd, v, rfl, upd_same, q.mono nw.ex⟩, r⟩)
end

/-! ### defs that may raise -/
abbrev SpX := List D → Led → (D → Led → Prop) → (Str → Option (Str × D) → Led → Prop) → Prop
def liftX (K : Frag) (mg : Str → Option Value) (sp : SpX) : Sp := fun vs H Q E => ∃ F m ds R XR, Dens K F vs ds ∧ At K F m H ∧ sp ds m R XR ∧ (∀ d m2 v F2 H2, R d m2 → Step K F m H F2 m2 H2 → Den K F2 v d → Q v H2) ∧
  ∀ nm C fd F2 m2 H2 d, XR nm fd m2 → mg nm = some (.ref C) → Step K F m H F2 m2 H2 → FdD K F2 d fd → E (.ref C) d H2
structure KnowsX (P : Program) (w : World) (K : Frag) (mg : Str → Option Value) (base : Heap) (k : Nat) (x : Str) (n : Nat) (dd : List D) (sp : SpX) : Prop where
  fn : ∃ f fd ps ds dvs, FnOk P w K mg base (L2.CX P w) k f fd ps (liftX K mg sp) ∧ mg x = some (.ref f) ∧ PySem.W.keepIn K (.ref f) = true ∧ Binds K fd ps ds ∧ Vals dvs ds ∧ (∀ F, Dens K F dvs dd) ∧ ps.length = n
theorem KnowsX.mono {P : Program} {w : World} {K : Frag} {mg : Str → Option Value} {base : Heap} {k j : Nat} {x : Str} {n : Nat} {dd : List D} {sp : SpX} (G : KnowsX P w K mg base k x n dd sp) (h : k ≤ j) : KnowsX P w K mg base j x n dd sp := by
  obtain ⟨f, fd, ps, ds, dvs, FO, r⟩ := G.fn
  exact ⟨f, fd, ps, ds, dvs, FO.mono h, r⟩
section
variable {X : CD} {e : Expr} {es : List Expr} {ρ : Rn} {m : Led} {R : D → Led → Prop} {x : Str} {p pos : Pos} {k n : Nat} {dd : List D} {sp : SpX}
end
section
variable {P : Program} {w : World} {K : Frag} {mg : Str → Option Value} {base : Heap}
end

/-! ### try .. except X [as n] -/
/-- the class x of the program is caught by a clause that names c -/
def XM (K : Frag) (mg : Str → Option Value) (x c : Str) (b : Bool) : Prop := ∃ C Cc, mg x = some (.ref C) ∧ mg c = some (.ref Cc) ∧ PySem.W.exmOne K (.ref C) (.ref Cc) = some b
theorem Env.cast {X Y : Cx} {F : Hp} {σ : L2.St} {ρ : Rn} (e : DL.Env X F σ ρ) (h1 : Y.N = X.N := by rfl) (h2 : Y.K = X.K := by rfl) : DL.Env Y F σ ρ := ⟨by rw [h1]; exact e.nd, by rw [h1]; exact e.nm, by rw [h2]; exact e.ev⟩
section
variable {X Y : CD} {F H : Hp} {m : Led} {σ : L2.St} {E : EndsD}
theorem PN.cast {R : Rn → Led → Prop} {H2 : Hp} (h : PN X F m H R σ H2) (h1 : Y.N = X.N := by rfl) (h2 : Y.K = X.K := by rfl) : PN Y F m H R σ H2 := by
  obtain ⟨ρ2, F2, m2, s, e, r⟩ := h
  exact ⟨ρ2, F2, m2, by rw [h2]; exact s, e.cast h1 h2, r⟩
theorem SSs.cast {Z : Cx} {sts : List Stmt} {H2 : Hp} (h : SSs Z sts (ED X F m H E) σ H2) (h1 : Y.N = X.N := by rfl) (h2 : Y.K = X.K := by rfl) : SSs Z sts (ED Y F m H E) σ H2 :=
  h.mono (fun _ _ q => q.cast h1 h2) (fun _ _ q => by show PQ Y.K F m H E.rt _ _; rw [h2]; exact q) (fun _ _ q => q.cast h1 h2) fun _ _ q => q.cast h1 h2
end
section
variable {X : CD} {x n : Str} {i : Nat} {body sts : List Stmt} {b₀ : Stmt} {np pos pos' : Pos} {ρ : Rn} {m : Led} {E : EndsD}
abbrev CD.tr (X : CD) (pn : List (Addr × Obj)) (xe : Value → Shared → Prop) (q : XQ) : CD := ⟨X.toCx.tr pn xe, q⟩
abbrev CD.suite (X : CD) (a : Addr) (pn : List (Addr × Obj)) : CD := ⟨X.toCx.suite a pn, fun _ _ _ _ => False⟩
/-- what is wished of an exception in the body of: try .. except x -/
def qOnly (X : CD) (x : Str) (sts : List Stmt) (E : EndsD) : XQ := fun nm fd ρ2 m2 => ∃ b, XM X.K X.mg nm x b ∧ (b = true → ∀ a oe pn, SX (X.suite a ((a, oe) :: pn)) sts ρ2 m2 E) ∧ (b = false → X.xq nm fd ρ2 m2)
def tBody (X : CD) (body : List Stmt) (W : L2.WX) : TS := fun D σ H => ∀ pn xe, Takes (X.toCx.tr pn xe) W → PassesOwn (model X.prog X.w) X.A X.env xe → SSs (X.toCx.tr pn xe) body D σ H
/-- the exception as a value of the clause's name -/
def ExD (a : Addr) : Option (Str × D) → Addr → D
  | none, _ => .ref a
  | some (f, x), dd => .exc a dd f x
/-- an except suite with the exception named: what is known of its object -/
def SuOk (K : Frag) (mg : Str → Option Value) (nm : Str) (fd : Option (Str × D)) (dd : Addr) (oe : Obj) : Prop := ∃ C, mg nm = some (.ref C) ∧ Zc (.ref C) (fd.map fun _ => dd) oe ∧ ∃ vs, oe.data = .fields vs
inductive DelAt : Rn → Nat → Str → Rn → Prop
  | here {x : Str} {o : Option D} {r : Rn} : DelAt ((x, o) :: r) 0 x ((x, none) :: r)
  | there {x : Str} {r r' : Rn} {q : Str × Option D} {i : Nat} : DelAt r i x r' → DelAt (q :: r) (i + 1) x (q :: r')
/-- what is wished of an exception in the body of: try .. except x as n -/
def qAs (X : CD) (x n : Str) (i : Nat) (sts : List Stmt) (E : EndsD) : XQ := fun nm fd ρ2 m2 => ∃ b, XM X.K X.mg nm x b ∧ (b = true → ∀ a dd oe pn, SuOk X.K X.mg nm fd dd oe → ∃ ρ3, SetAt ρ2 i n (ExD a fd dd) ρ3 ∧
    SX (X.suite a ((a, oe) :: pn)) sts ρ3 m2 { nx := fun ρ4 m4 => ∃ ρ5, DelAt ρ4 i n ρ5 ∧ E.nx ρ5 m4, rt := E.rt, bk := fun ρ4 m4 => ∃ ρ5, DelAt ρ4 i n ρ5 ∧ E.bk ρ5 m4, ct := fun ρ4 m4 => ∃ ρ5, DelAt ρ4 i n ρ5 ∧ E.ct ρ5 m4 }) ∧ (b = false → X.xq nm fd ρ2 m2)
theorem DelAt.eq : ∀ {ρ ρ' : Rn} {i : Nat} {x : Str}, DelAt ρ i x ρ' → ρ' = ρ.set i (x, none) ∧ (ρ.map (·.1))[i]? = some x
  | _, _, _, _, .here => ⟨rfl, rfl⟩
  | _, _, _, _, .there h => by
    obtain ⟨h1, h2⟩ := h.eq
    exact ⟨by rw [List.set_cons_succ, h1], by rw [List.map_cons, List.getElem?_cons_succ]; exact h2⟩
theorem Env.del {X : Cx} {F : Hp} {σ : L2.St} {ρ ρ' : Rn} (e : DL.Env X F σ ρ) (h : DelAt ρ i n ρ') : DL.Env X F (σ.set i none) ρ' := by
  obtain ⟨rfl, hx⟩ := h.eq
  refine ⟨e.nd, ?_, ⟨?_, fun j d hj => ?_⟩⟩
  · rw [List.map_set, ← e.nm]
    apply List.ext_getElem?
    intro j
    by_cases hj : i = j
    · subst hj
      rw [hx, List.getElem?_set_self (List.getElem?_eq_some_iff.mp hx).1]
    · rw [List.getElem?_set_ne hj]
  · simpa using e.ev.len
  · rw [List.map_set] at hj
    by_cases hij : i = j
    · subst hij
      by_cases hl : i < (ρ.map (·.2)).length
      · rw [List.getElem?_set_self hl] at hj; cases hj
      · rw [List.getElem?_eq_none (by simpa using hl)] at hj; cases hj
    · rw [List.getElem?_set_ne hij] at hj
      obtain ⟨v, e1, e2⟩ := e.ev.get j d hj
      exact ⟨v, by rw [List.getElem?_set_ne hij]; exact e1, e2⟩
end
end DL


namespace DL
open PySem PySem.Spec PySem.Calls PyProof.Rows L2

section
variable {P : Program} {w : World} {K : Frag} {mg : Str → Option Value} {base : Heap}
/-- a def by its written form, defaults and all -/
abbrev FnD (K : Frag) (x qual : Str) (st : Stmt) (dvs : List V) (f : Addr) (fd : FuncData) : Prop := FunD K x qual (defArgs st) (defBody st) (defScope st) dvs [] f fd
/-- THE RULE for a def that may raise, with defaults -/
theorem def_okD {x qual : Str} {st : Stmt} {f : Addr} {fd : FuncData} {dvs : List V} {N ps : List Str} {k : Nat} {sp : SpX} (F : FnD K x qual st dvs f fd) (S : FnScope N ps (defScope st)) (len : ∀ ds m R XR, sp ds m R XR → ds.length = ps.length)
    (body : ∀ (cdv : Value) (A : Around) (outer : List PySem.Env) (s : Shared) (H : Hp) (E : XK) (ds : List D) (m : Led) (R : D → Led → Prop) (XR : Str → Option (Str × D) → Led → Prop), Room k (A.deeper (envOfC qual (defScope st) s.heap.objs.size f cdv)) → sp ds m R XR →
      SX ⟨cxOf (L2.CX P w) P w K mg base N qual (defScope st) f cdv A outer s H E, fun nm fd _ m2 => ∃ m3, m3.Sublist m2 ∧ XR nm fd m3⟩ (defBody st) (startR N ds) m { nx := fun _ m2 => ∃ m3, m3.Sublist m2 ∧ R .non m3, rt := fun d m2 => ∃ m3, m3.Sublist m2 ∧ R d m3 }) : FnOk P w K mg base (L2.CX P w) (k + 1) f fd ps (liftX K mg sp) := by
  refine F.ok S (fun vs H Q E ⟨F0, m, ds, R, XR, q, _, h, _⟩ => by rw [q.length]; exact len ds m R XR h) (fun cdv A outer s H vs Q E hr ⟨F0, m, ds, R, XR, q, at_, h, k, kx⟩ => ?_)
  refine ⟨_, pss_SS, ?_⟩
  have hb := body cdv A outer s H E ds m R XR hr h
  have hl : vs.length ≤ N.length := by
    rw [q.length, len ds m R XR h]
    have := congrArg List.length S.pre
    rw [List.length_take] at this
    omega
  have en : DL.Env (cxOf (L2.CX P w) P w K mg base N qual (defScope st) f cdv A outer s H E) F0 (start N vs) (startR N ds) := ⟨S.nd, startR_names N ds, startR_envs N vs ds hl q⟩
  have ax : AtX ⟨cxOf (L2.CX P w) P w K mg base N qual (defScope st) f cdv A outer s H E, fun nm fd _ m2 => ∃ m3, m3.Sublist m2 ∧ XR nm fd m3⟩ F0 m H := by
    refine ⟨at_, ?_, passes_of rfl⟩
    refine (takes_of (E := E) rfl rfl rfl rfl).imp fun cls d σ H2 ⟨nm, C, fd', ρ2, F2, m2, h1, h2, h3, h4, h5, m3, sl, xr⟩ => ?_
    subst h2
    exact kx nm C fd' F2 m3 H2 d xr h1 (h3.trans (Step.drop h3.at2 sl)) h5
  refine (hb.run F0 (start N vs) H en ax).mono (fun σ2 H2 ⟨ρ2, F2, m2, s2, en2, m3, sl, r⟩ => ?_) (fun v H2 ⟨d, F2, m2, s2, q2, m3, sl, r⟩ => ?_) (fun _ _ ⟨_, _, _, _, _, z⟩ => z) (fun _ _ ⟨_, _, _, _, _, z⟩ => z)
  · exact k .non m3 .non F2 H2 r (s2.trans (Step.drop s2.at2 sl)) .non
  · exact k d m3 v F2 H2 r (s2.trans (Step.drop s2.at2 sl)) q2
end

/-! ### a call with keywords alone -/
structure KnowsK (P : Program) (w : World) (K : Frag) (mg : Str → Option Value) (base : Heap) (k : Nat) (x : Str) (ks : List Str) (gD : List D → List D) (sp : SpX) : Prop where
  fn : ∃ f fd ps g gV, FnOk P w K mg base (L2.CX P w) k f fd ps (liftX K mg sp) ∧ mg x = some (.ref f) ∧ PySem.W.keepIn K (.ref f) = true ∧ KBn K fd ps 0 ks g gV ∧ ∀ F zs ds, Dens K F zs ds → zs.length = ks.length → Dens K F (gV [] zs) (gD ds)
theorem KnowsK.mono {P : Program} {w : World} {K : Frag} {mg : Str → Option Value} {base : Heap} {k j : Nat} {x : Str} {ks : List Str} {gD : List D → List D} {sp : SpX} (G : KnowsK P w K mg base k x ks gD sp) (h : k ≤ j) : KnowsK P w K mg base j x ks gD sp := by
  obtain ⟨f, fd, ps, g, gV, FO, r⟩ := G.fn
  exact ⟨f, fd, ps, g, gV, FO.mono h, r⟩

def SK (X : Cx) (kws : List Keyword) (σ : L2.St) (H : Hp) (Q : List V → Hp → Prop) : Prop := ∀ pos pins s, Inv X pins σ H s → wpAny (model X.prog X.w) X.A (evalAll ((backToKw pos (keywordEach kws X.env)).map (·.2))) (AP X pins σ Q) X.xe s
theorem SK.of {X : Cx} {kws : List Keyword} {σ : L2.St} {H : Hp} {t : TA} {Q : List V → Hp → Prop} (h : PK X kws t) (q : t σ H Q) : SK X kws σ H Q := fun pos pins s I => h.run pos pins s σ H Q I q
theorem SK.mono {X : Cx} {kws : List Keyword} {σ : L2.St} {H : Hp} {Q Q' : List V → Hp → Prop} (h : SK X kws σ H Q) (q : ∀ v H', Q v H' → Q' v H') : SK X kws σ H Q' := fun pos pins s I => thn (h pos pins s I) fun u s' ⟨v, H', I', r, k⟩ => ⟨v, H', I', r, q v H' k⟩
structure KX (X : CD) (kws : List Keyword) (ρ : Rn) (m : Led) (R : List D → Led → Prop) : Prop where
  run : ∀ F σ H, Env X F σ ρ → AtX X F m H → SK X kws σ H (PL X.K F m H R)
section
variable {X : CD} {e : Expr} {kws : List Keyword} {ks : List Str} {nm : Option Str} {gD : List D → List D} {ρ : Rn} {m : Led} {R : D → Led → Prop} {x : Str} {p pos kpos : Pos} {k : Nat} {sp : SpX}
end

/-! ### a def called within an except suite -/
structure KnowsP (P : Program) (w : World) (K : Frag) (mg : Str → Option Value) (base : Heap) (k : Nat) (x : Str) (n : Nat) (sp : SpD) : Prop where
  fn : ∃ (f : Addr) (fd : FuncData) (ps : List Str), (∀ (A : Around) (outer : List PySem.Env) (s : Shared) (H : Hp) (args : Args) (us : List Value) (vs : List V) (Q : VK) (E : XK) (p : Addr × Obj), L2H.RoomH k A → L2H.PinOk outer H s p → Env0 P w K mg base A outer s H → BindsTo s fd args (ps.zip us) → Vals vs us → lift K sp vs H Q E →
      codeAny (model P w) A (.call (.ref f) args) (CR CX0 outer P w H s Q E) s) ∧ mg x = some (.ref f) ∧ PySem.W.keepIn K (.ref f) = true ∧ Binds K fd ps [] ∧ ps.length = n ∧ ∀ ds m R, sp ds m R → ds.length = n
section
variable {P : Program} {w : World} {K : Frag} {mg : Str → Option Value} {base : Heap}
end
section
variable {X : CD} {e : Expr} {es : List Expr} {ρ : Rn} {m : Led} {R : D → Led → Prop} {x : Str} {p pos : Pos} {k n : Nat} {sp : SpD} {a : Addr} {oe : Obj} {pn : List (Addr × Obj)}
end
end DL


namespace DL
open PySem PySem.Spec PyProof.Rows L2 RZ

/-! ### comprehensions over pairs -/
section
variable {X : CD} {elt it : Expr} {scope : Scope} {ρ : Rn} {m : Led} {R : D → Led → Prop} {pos p0 p1 p2 : Pos} {y z : Str} {j k n0 : Nat}
theorem Den.pair_inv {K : Frag} {F : Hp} {v : V} {d1 d2 : D} (q : Den K F v (.tup [d1, d2])) : ∃ a v1 v2, v = .ref a ∧ SqT K F a [v1, v2] ∧ Den K F v1 d1 ∧ Den K F v2 d2 := by
  cases q with
  | tup h hs =>
    cases hs with
    | cons q1 r =>
      cases r with
      | cons q2 r2 =>
        cases r2
        exact ⟨_, _, _, rfl, h, q1, q2⟩
theorem wipe2 {F : Hp} {σ : L2.St} {ρ1 ρ2 : Rn} {d1 d2 : D} {v1 v2 : V} (en : Env X F σ ρ) (h1 : SetAt ρ j y d1 ρ1) (q1 : Den X.K F v1 d1) (h2 : SetAt ρ1 k z d2 ρ2) (q2 : Den X.K F v2 d2) : Env X F (((L2.wipe σ [j, k]).set j (some v1)).set k (some v2)) ρ2 := by
  have e : ((L2.wipe σ [j, k]).set j (some v1)).set k (some v2) = (σ.set j (some v1)).set k (some v2) := by
    show ((((σ.set k none).set j none).set j (some v1)).set k (some v2)) = _
    rw [List.set_set]
    by_cases hjk : k = j
    · subst hjk
      rw [List.set_set, List.set_set, List.set_set]
    · rw [List.set_comm _ _ hjk, List.set_set]
  rw [e]
  exact (en.set h1 q1).set h2 q2
def CompP (X : CD) (scope : Scope) (ifs : List Expr) (elt : Expr) (y : Str) (j : Nat) (z : Str) (k : Nat) (ρ : Rn) (R : List D → Led → Prop) (ds : List D) (m1 : Led) : Prop := ∃ I : Nat → List D → Led → Prop, I 0 [] m1 ∧
  (∀ i d acc m', ds[i]? = some d → I i acc m' → ∃ d1 d2 ρ1 ρ2, d = .tup [d1, d2] ∧ SetAt ρ j y d1 ρ1 ∧ SetAt ρ1 k z d2 ρ2 ∧ ∀ (s : Shared) (H0 : Hp) (C : Addr) (cl : List (Str × Addr)) (fp : List Addr),
    match ifs with
    | [] => EX (X.blk s H0 scope (compEnvC scope cl C X.env) fp) elt ρ2 m' fun z m3 => acc.length < 100000 ∧ I (i + 1) (acc ++ [z]) m3
    | [c] => TX (X.blk s H0 scope (compEnvC scope cl C X.env) fp) c ρ2 m' fun k m2 => (k = true → ∀ (s : Shared) (H0 : Hp) (C : Addr) (cl : List (Str × Addr)) (fp : List Addr), EX (X.blk s H0 scope (compEnvC scope cl C X.env) fp) elt ρ2 m2 fun z m3 => acc.length < 100000 ∧ I (i + 1) (acc ++ [z]) m3) ∧ (k = false → I (i + 1) acc m2)
    | _ => False) ∧ ∀ acc m', I ds.length acc m' → R acc m'
/-- the reading of a comprehension over pairs -/
theorem lc_readP {ifs : List Expr} {F σ H} (hl1 : ifs.length ≤ 1) (en : Env X F σ ρ) (at_ : AtX X F m H) (R : List D → Led → Prop) (QQ : VK) (h : IX X (.Tuple [.Name y p1, .Name z p2] n0 p0) it ρ m (CompP X scope ifs elt y j z k ρ R))
    (fin : ∀ Dl acc vs F1 m1 H1 F' m' H', Step X.K F m H F1 m1 H1 → H1 Dl = none → Step X.K F1 m1 H1 F' m' H' → F' Dl = none → Dl ∉ keys m' → H' Dl = some (.lst vs) → Dens X.K F' vs acc → R acc m' → QQ (.ref Dl) H') : tLc (SI X (.Tuple [.Name y p1, .Name z p2] n0 p0) it) (gTup X.K 2 (gCons (gName j) (gCons (gName k) gNil))) (STs X scope ifs) (SEb X scope elt) [j, k] σ H QQ := by
  refine (h.run F σ H en at_).mono fun J H1 ⟨ds, F1, m1, st, ⟨I, i0, turn, done⟩, w⟩ => fun Dl hDl => ?_
  have hF1 : F1 Dl = none := st.at2.sub.free hDl
  have hk1 : Dl ∉ keys m1 := st.at2.notkey hDl
  refine lc_it w (fun i H' => ∃ acc vs F' m', Step X.K F1 m1 H1 F' m' H' ∧ H' Dl = some (.lst vs) ∧ Dens X.K F' vs acc ∧ I i acc m' ∧ F' Dl = none ∧ Dl ∉ keys m') ⟨[], [], F1, m1, (Step.refl st.at2).poke hDl hF1 hk1, upd_same, .nil, i0, hF1, hk1⟩
    (fun i H' _ ⟨acc, vs, F', m', s', _⟩ => s'.ex.trans s'.at2.sub) (fun i x H' H'' hi ⟨acc, vs, F', m', s', hl, hs, hI, hF', hk'⟩ yy => ?_) (fun H' ⟨acc, vs, F', m', s', hl, hs, hI, hF', hk'⟩ => ?_)
  · obtain ⟨F3, d, hd, s3, q⟩ := yy F' m' s'.ex s'.at2
    obtain ⟨d1, d2, ρ1, ρ2, rfl, hset, hset2, turn⟩ := turn i d acc m' hd hI
    obtain ⟨a, v1, v2, rfl, hq0, q1, q2⟩ := q.pair_inv
    obtain ⟨a1, a2, a3⟩ := s3.stay hF' hk' hl
    have en2 := wipe2 (en.mono (st.ex.trans (s'.ex.trans s3.ex))) hset q1 hset2 q2
    have fin : ∀ {F4 m4 H4 v zz}, Step X.K F3 m' H'' F4 m4 H4 → Den X.K F4 v zz → acc.length < 100000 ∧ I (i + 1) (acc ++ [zz]) m4 → ∃ acc, H4 Dl = some (.lst acc) ∧ acc.length < sizeLine ∧ ∃ acc_1 vs F' m', Step X.K F1 m1 H1 F' m' (upd H4 Dl (.lst (acc ++ [v]))) ∧ upd H4 Dl (.lst (acc ++ [v])) Dl = some (.lst vs) ∧ Dens X.K F' vs acc_1 ∧ I (i + 1) acc_1 m' ∧ F' Dl = none ∧ Dl ∉ keys m' := fun {F4 m4 H4 v zz} s4 q4 hh => by
      obtain ⟨b1, b2, b3⟩ := s4.stay a2 a3 a1
      exact ⟨vs, b1, lenLt (by rw [hs.length]; exact hh.1), acc ++ [zz], vs ++ [v], F4, m4, ((s'.trans s3).trans s4).poke hDl b2 b3, upd_same, (hs.mono (s3.ex.trans s4.ex)).snoc q4, hh.2, b2, b3⟩
    refine ⟨a, [v1, v2], rfl, s3.at2.sub.sqT hq0, rfl, v1, [v2], rfl, v2, [], rfl, rfl, ?_⟩
    refine ⟨by rw [wipe_set (by simp), wipe_set (by simp), wipe_wipe _ _ fun _ q => q], ?_⟩
    match ifs, turn with
    | [], turn =>
      unfold STs
      dsimp only
      rw [if_pos rfl]
      intro s H0 C cl fp
      exact EX.go (turn s H0 C cl fp) en2.blk (.quiet s3.at2) fun v z F4 m4 H4 s4 _ q4 hh => fin s4 q4 hh
    | [c], turn =>
      show ∀ s H0 C cl fp, ST (X.blk s H0 scope (compEnvC scope cl C X.env) fp) c _ H'' _
      intro s H0 C cl fp
      refine TX.go (turn s H0 C cl fp) en2.blk (.quiet s3.at2) fun k F4 m4 H4 s4 _ r => ?_
      cases k with
      | true =>
        rw [if_pos rfl]
        intro s' H0' C' cl' fp'
        exact EX.go (r.1 rfl s' H0' C' cl' fp') (en2.mono s4.ex).blk (.quiet s4.at2.toAt) fun v z F5 m5 H5 s5 _ q5 hh => fin (s4.st.trans s5.st) q5 hh
      | false =>
        rw [if_neg Bool.false_ne_true]
        obtain ⟨b1, b2, b3⟩ := Step.stay s4.st a2 a3 a1
        exact ⟨acc, vs, F4, m4, (s'.trans s3).trans s4, b1, hs.mono (s3.ex.trans s4.ex), r.2 rfl, b2, b3⟩
    | _ :: _ :: _, turn => exact absurd hl1 (by simp)
  · exact fin Dl acc vs F1 m1 H1 F' m' H' st hDl s' hF' hk' hl hs (done acc m' (by simpa using hI))
/-- [elt for y in it if ..] -/
theorem x_lcP {ifs : List Expr} (hj : SlotAt ρ j y) (hk0 : SlotAt ρ k z) (h : IX X (.Tuple [.Name y p1, .Name z p2] n0 p0) it ρ m (CompP X scope ifs elt y j z k ρ fun acc m' => R (.lst acc) m')) (hl1 : ifs.length ≤ 1 := by decide) (hok : blkC X.N X.env.scope scope [(y, j), (z, k)] = true := by kernel_rfl)
    (hx : ∀ cl C, Loc (compEnvC scope cl C X.env).scope y := by intro _ _; first | exact Or.inl rfl | exact Or.inr rfl) (hx2 : ∀ cl C, Loc (compEnvC scope cl C X.env).scope z := by intro _ _; first | exact Or.inl rfl | exact Or.inr rfl) (hf : ∀ cl C, (scope.names.lookup y == some .cell) = true ∨ (compEnvC scope cl C X.env).scope.names.lookup y = some .local := by intro _ _; first | exact .inl rfl | exact .inr rfl) (hf2 : ∀ cl C, (scope.names.lookup z == some .cell) = true ∨ (compEnvC scope cl C X.env).scope.names.lookup z = some .local := by intro _ _; first | exact .inl rfl | exact .inr rfl)
    (hc : X.calm = true := by rfl) (hs : ∀ x, foldedSetIterable it X.env x = pure x := by intro _; rfl) : EX X (.ListComp elt [⟨.Tuple [.Name y p1, .Name z p2] n0 p0, it, ifs, 0⟩] scope pos) ρ m R := .mk fun F σ H en at_ =>
  SE.of (pe_lc (own := [(y, j), (z, k)]) hc en.nd (pi_SI (it := it)) (blkOk_by hok) (fun s H0 C cl fp => pg_tup (X := X.blk s H0 scope (compEnvC scope cl C X.env) fp) hc (pgs_cons (pg_name (X := X.blk s H0 scope (compEnvC scope cl C X.env) fp) (i := j) en.nd (by show X.N[j]? = some y; rw [← en.nm]; exact hj.ix) (hx cl C) (hf cl C)) (pgs_cons (pg_name (X := X.blk s H0 scope (compEnvC scope cl C X.env) fp) (i := k) en.nd (by show X.N[k]? = some z; rw [← en.nm]; exact hk0.ix) (hx2 cl C) (hf2 cl C)) pgs_nil))) (fun s H0 C cl fp => pts_STs s H0 C cl fp) (fun s H0 C cl fp => pe_SEb s H0 C cl fp) hs)
    (lc_readP hl1 en at_ _ _ h (fun Dl acc vs F1 m1 H1 F' m' H' st hD s' hF hk hl hs r => let ⟨F2, st2, q⟩ := lc_frz (R := fun _ _ => True) st hD s' hF hk hl hs; ⟨_, F2, m', st2, q, r⟩))
end
end DL


namespace DL
open PySem PySem.Spec PyProof.Rows L2 RZ

/-! ### == through the ledger, at any depth -/
mutual
inductive DW (m : Led) : D → D → Prop
  | now (d : D) : DW m d d
  | led {i : Nat} {a : Addr} {ds es : List D} : m[i]? = some (a, .lst ds) → DWs m ds es → DW m (.ref a) (.lst es)
  | tup {ds es : List D} : DWs m ds es → DW m (.tup ds) (.tup es)
inductive DWs (m : Led) : List D → List D → Prop
  | nil : DWs m [] []
  | cons {d e : D} {ds es : List D} : DW m d e → DWs m ds es → DWs m (d :: ds) (e :: es)
end
theorem DWs.now {m : Led} : ∀ ds : List D, DWs m ds ds
  | [] => .nil
  | d :: ds => .cons (.now d) (DWs.now ds)
mutual
theorem DW.dp {K : Frag} {F H : Hp} {m : Led} (at_ : At K F m H) : ∀ {d d' : D} {v : V} (n : Nat), DW m d d' → Sh n d' → Den K F v d → Dp K H v (py d')
  | _, _, v, n, .now d, hs, q => Dp.up at_.sub (q.dp n _ _ hs)
  | _, _, v, 0, .led _ _, hs, _ => hs.elim
  | _, _, v, n + 1, .led hi h, hs, q => by
    cases q
    obtain ⟨hh, ⟨xs, rfl, qs⟩, e⟩ := at_.get hi
    exact .lst (.inl (.inl e)) (DWs.dp at_ n h hs qs)
  | _, _, v, 0, .tup _, hs, _ => hs.elim
  | _, _, v, n + 1, .tup h, hs, q => by
    cases q with
    | tup q qs => exact .tup (at_.sub.sqT q) (DWs.dp at_ n h hs qs)
theorem DWs.dp {K : Frag} {F H : Hp} {m : Led} (at_ : At K F m H) : ∀ {ds es : List D} {vs : List V} (n : Nat), DWs m ds es → (∀ x ∈ es, Sh n x) → Dens K F vs ds → DpAll K H vs (pys es)
  | _, _, _, n, .nil, _, .nil => .nil
  | _, _, _, n, .cons h hs, k, .cons q qs => .cons (DW.dp at_ n h (k _ List.mem_cons_self) q) (DWs.dp at_ n hs (fun x hx => k x (List.mem_cons_of_mem _ hx)) qs)
end
section
variable {X : CD} {d1 d2 e1 e2 : D} {m : Led} {R : D → Led → Prop}
end

section
variable {X : CD} {d : D} {m : Led} {R : D → Led → Prop}
end

/-! ### the forms that the walker takes -/
section
variable {X : CD} {e : Expr} {es : List Expr} {kws : List Keyword} {ρ : Rn} {m : Led} {R : D → Led → Prop} {E : EndsD} {x nm f : Str} {p pos pos2 np pos' : Pos} {k n : Nat} {dd : List D} {sp : SpX} {mg : Str → Option Value} {P : Program} {w : World} {K : Frag} {base : Heap} {C : Addr} {ks : List Str} {gD : List D → List D}
theorem c_raise0 (G : XK0 P w K mg nm C) (hr : Room 1 X.A) (h : X.xq nm none ρ m) (hX : X.prog = P ∧ X.w = w ∧ X.K = K ∧ X.mg = mg := by exact ⟨rfl, rfl, rfl, rfl⟩) (hc : X.calm = true := by rfl) (hg : Gl X nm := by rfl) (hdb : (nm == ("__debug__" : Str)) = false := by decide) : S1 X (.Raise (some (.Call (.Name nm p) [] [] pos)) none pos2) ρ m E := by
  obtain ⟨rfl, rfl, rfl, rfl⟩ := hX
  exact s_raise0 G hr h hc hg hdb
theorem c_raise1 (G : XK1 P w K mg nm f C) (hr : Room 1 X.A) (h : EX X e ρ m fun d m1 => X.xq nm (some (f, d)) ρ m1) (hX : X.prog = P ∧ X.w = w ∧ X.K = K ∧ X.mg = mg := by exact ⟨rfl, rfl, rfl, rfl⟩) (hc : X.calm = true := by rfl) (hg : Gl X nm := by rfl) (hdb : (nm == ("__debug__" : Str)) = false := by decide)
    (hst : starEach [e] X.env = (false, eval e X.env) :: starEach [] X.env := by rfl) : S1 X (.Raise (some (.Call (.Name nm p) [e] [] pos)) none pos2) ρ m E := by
  obtain ⟨rfl, rfl, rfl, rfl⟩ := hX
  exact s_raise1 G hr h hc hg hdb hst
end
/-- a class's own __init__ (the j-th statement of the class's body) -/
def inClass (st : Stmt) (j : Nat) : Stmt := match st with
  | .ClassDef _ _ _ body _ _ _ _ _ _ _ => body.getD j (.Pass ⟨0, 0, 0, 0⟩)
  | _ => .Pass ⟨0, 0, 0, 0⟩
end DL


namespace DL
open PySem PySem.Spec PySem.Calls PyProof.Rows L2 RZ

/-! ### dicts whose keys are tuples of ints -/
abbrev kI (P : Program) (w : World) : HeapKind P w (List Int) := tupleKind (PySem.intKind P w)
theorem ints_are {P : Program} {w : World} : ∀ {k : List Int} {its : List Value}, Vals (k.map V.int) its → ItemsAre (PySem.intKind P w) k its
  | [], _, .nil => .nil
  | i :: k, _, .cons r t => .cons (by obtain ⟨t, e⟩ := r; subst e; simp [PySem.intKind, Value.isInt]) (ints_are t)
theorem keyI {X : Cx} {pins : List (Addr × Obj)} {σ : L2.St} {H : Hp} {s : Shared} {b : Addr} {k : List Int} (I : Inv X pins σ H s) (h : SqT X.K H b (k.map V.int)) : (kI X.prog X.w).is s.heap k b := by
  obtain ⟨its, r, ⟨o, e1, e2, n, e3⟩, _⟩ := I.tuple h
  exact ⟨o, its.toArray, n, e1, e2, e3, by simpa using ints_are r⟩
theorem objO_get {P : Program} {w : World} {H : Hp} {h : Heap} {a : Addr} {o : Obj} (ok : HOk P w H h) (e : H a = some (objO a o)) : h.get? a = some o := (ok a _ e).1
theorem objO_ok {P : Program} {w : World} {H : Hp} {h : Heap} {a : Addr} {o : Obj} (e : h.get? a = some o) : ObjOk P w H h a (objO a o) := ⟨e, ⟨o, e⟩, fun h1 h2 e1 k => k o e1⟩
theorem dictI {X : Cx} {pins : List (Addr × Obj)} {σ : L2.St} {H : Hp} {s : Shared} {a : Addr} {o : Obj} {xs : List (List Int × Addr × Value)} (I : Inv X pins σ H s) (h : H a = some (objO a o)) (d : DictObj a o xs) (t : ∀ x ∈ xs, SqT X.K H x.2.1 (x.1.map V.int)) : s.heap.DictOfH (kI X.prog X.w) a xs := by
  obtain ⟨ep, e⟩ := d.dat
  exact ⟨o, _, ep, objO_get I.hok h, d.ex, e, by simp; intro a b c _; rfl, fun x hx => keyI I (t x hx), d.nod⟩
theorem dictObj_of {P : Program} {w : World} {h : Heap} {a : Addr} {xs : List (List Int × Addr × Value)} (d : h.DictOfH (kI P w) a xs) (hl : xs.length ≤ sizeLine) (hs : (a == sysModules) = false) : ∃ o, h.get? a = some o ∧ DictObj a o xs := by
  obtain ⟨o, es, ep, h1, h2, h3, h4, _, h6⟩ := d
  refine ⟨o, h1, h2, ⟨ep, ?_⟩, h6, hl, hs⟩
  rw [h3]
  congr 1
  have : es = es.toList.toArray := by simp
  rw [this, h4]
  rfl
/-- the dict's data -/
structure DictD (K : Frag) (F : Hp) (a : Addr) (H : Hp) (ks : List (List Int)) (ds : List D) : Prop where
  ex : ∃ (o : Obj) (xs : List (List Int × Addr × Value)) (vs : List V), H a = some (objO a o) ∧ DictObj a o xs ∧ xs.map (·.1) = ks ∧ (∀ x ∈ xs, SqT K H x.2.1 (x.1.map V.int)) ∧ Vals vs (xs.map (·.2.2)) ∧ Dens K F vs ds
def DicV (m : Led) (d : D) (ks : List (List Int)) (ds : List D) : Prop := d = .dI ks ds ∨ ∃ (i : Nat) (a : Addr), d = .ref a ∧ m[i]? = some (a, .dI ks ds)
theorem DicV.read {K : Frag} {F H : Hp} {m : Led} {d : D} {ks : List (List Int)} {ds : List D} {v : V} (h : DicV m d ks ds) (a : At K F m H) (q : Den K F v d) : ∃ p, v = .ref p ∧ DictD K F p H ks ds := by
  rcases h with rfl | ⟨i, p, rfl, hi⟩
  · cases q with
    | dI h ho hk ht hv hs => exact ⟨_, rfl, _, _, _, a.sub _ _ h, ho, hk, fun x hx => a.sub.sqT (ht x hx), hv, hs⟩
  · cases q
    obtain ⟨hh, ⟨o, xs, vs, rfl, ho, hk, ht, hv, hs⟩, e⟩ := a.get hi
    exact ⟨p, rfl, o, xs, vs, e, ho, hk, fun x hx => a.sub.sqT (ht x hx), hv, hs⟩
theorem DictD.length {K : Frag} {F H : Hp} {a : Addr} {ks : List (List Int)} {ds : List D} (h : DictD K F a H ks ds) : ks.length = ds.length := by
  obtain ⟨o, xs, vs, _, _, rfl, _, hv, hs⟩ := h.ex
  rw [← hs.length, hv.length]
  simp
theorem atKey_at {xs : List (List Int × Addr × Value)} (nd : (xs.map (·.1)).Nodup) : ∀ {i : Nat} {x : List Int × Addr × Value}, xs[i]? = some x → atKey xs x.1 = some x.2 := by
  induction xs with
  | nil => intro i x h; simp at h
  | cons y ys ih =>
    intro i x h
    rw [List.map_cons, List.nodup_cons] at nd
    cases i with
    | zero =>
      simp at h
      subst h
      simp [atKey]
    | succ i =>
      have h' : ys[i]? = some x := by simpa using h
      have ne : y.1 ≠ x.1 := fun e => nd.1 (e ▸ List.mem_map.mpr ⟨x, List.mem_of_getElem? h', rfl⟩)
      have := ih nd.2 h'
      simpa [atKey, ne] using this
theorem atKey_none {xs : List (List Int × Addr × Value)} {k : List Int} (h : k ∉ xs.map (·.1)) : atKey xs k = none := by
  simp only [atKey, Option.map_eq_none_iff, List.find?_eq_none, decide_eq_true_eq]
  intro x hx e
  exact h (e ▸ List.mem_map.mpr ⟨x, hx, rfl⟩)
theorem DictD.at {K : Frag} {F H : Hp} {a : Addr} {ks : List (List Int)} {ds : List D} {i : Nat} {k : List Int} {d : D} (h : DictD K F a H ks ds) (hk : ks[i]? = some k) (hd : ds[i]? = some d) :
    ∃ (o : Obj) (xs : List (List Int × Addr × Value)) (b : Addr) (u : Value) (v : V), H a = some (objO a o) ∧ DictObj a o xs ∧ xs.map (·.1) = ks ∧ (∀ x ∈ xs, SqT K H x.2.1 (x.1.map V.int)) ∧ atKey xs k = some (b, u) ∧ RelV v u ∧ Den K F v d := by
  obtain ⟨o, xs, vs, h1, h2, rfl, h4, hv, hs⟩ := h.ex
  obtain ⟨v, hv1, q⟩ := hs.get hd
  obtain ⟨u, hu, ru⟩ := hv.get hv1
  rw [List.getElem?_map] at hk hu
  cases e : xs[i]? with
  | none => rw [e] at hk; cases hk
  | some x =>
    rw [e] at hk hu
    obtain rfl : x.1 = k := Option.some.inj hk
    obtain rfl : x.2.2 = u := Option.some.inj hu
    exact ⟨o, xs, x.2.1, x.2.2, v, h1, h2, rfl, h4, atKey_at h2.nod e, ru, q⟩
section
variable {X : CD} {m : Led} {R : D → Led → Prop} {E : XR} {d d1 d2 : D} {ks : List (List Int)} {ds : List D} {k : List Int} {i : Nat}
theorem key_read {K : Frag} {F H : Hp} {v : V} (at_ : At K F m H) (q : Den K F v (.tup (k.map D.int))) : ∃ b, v = .ref b ∧ SqT K H b (k.map V.int) := by
  obtain ⟨b, xs, rfl, h, hs⟩ := tup_read at_ q
  rw [hs.ints] at h
  exact ⟨b, rfl, h⟩
theorem roomI {A : Around} (hu : A.units + 64 < cLine) {P : Program} {w : World} : (kI P w).room A.in1 := by
  show A.units + 1 < cLine
  omega
theorem subTail_dict {prog : Program} {w : World} {A : Around} {E : Value → Shared → Prop} {s : Shared} {value slice : Expr} {o i : Value} {Q : Value → Shared → Prop} (hT : s.TypeIs o "dict") (hs : subscripted slice false o i = operate [o, i] (getItem o i))
    (h : wpAny (model prog w) A (getItem o i) Q E s) : wpAny (model prog w) A (subscriptTail value slice o i) Q E s := by
  unfold subscriptTail
  refine wpAny_bind ?_
  rw [getitemInPython_of_ne hT.not_modules]
  refine wpAny_bind (wpAny_specialOf hT PySem.F.slot_dict_getitem.lookup ?_)
  have fin : wpAny (model prog w) A (subscripted slice false o i) (fun r s₃ => wpAny (model prog w) A (letTemporaryGo value o r >>= fun _ => pure r) Q E s₃) E s := by
    rw [hs]
    exact wpAny_operating (wpAny_mono h (fun r s₃ h₃ => wpAny_bind (wpAny_letTemporaryGo (wpAny_pure h₃))) fun _ _ x => x)
  first
    | exact wpAny_pure (wpAny_bind fin)
    | exact wpAny_bind (wpAny_pure (wpAny_bind fin))
    | exact wpAny_bind fin
theorem i_dic {x : D} (hu : X.A.units + 64 < cLine) (h : DicV m d1 ks ds) (hk : ks[i]? = some k) (hd : ds[i]? = some x) (kk : R x m) : IxX X d1 (.tup (k.map D.int)) m R := .mk fun value slice F σ H a b pins s v u q1 q2 at_ I rx ry hs => by
  obtain ⟨p, rfl, dd⟩ := h.read at_.toAt q1
  obtain ⟨c, rfl, sq⟩ := key_read at_.toAt q2
  obtain ⟨o, xs, b', u', w', h1, h2, h3, h4, h5, ru, qd⟩ := dd.at hk hd
  cases rx
  cases ry
  have dh := dictI I h1 h2 h4
  refine subTail_dict dh.typeIs hs ?_
  exact wpAny_getItem_heap (roomI hu) (keyI I sq) dh h5 ⟨w', H, I.tok _, ru, PQ.now at_.toAt qd kk⟩
theorem DictD.has {K : Frag} {F H : Hp} {a : Addr} {ks : List (List Int)} {ds : List D} (h : DictD K F a H ks ds) (k : List Int) : ∃ (o : Obj) (xs : List (List Int × Addr × Value)), H a = some (objO a o) ∧ DictObj a o xs ∧ xs.map (·.1) = ks ∧ (∀ x ∈ xs, SqT K H x.2.1 (x.1.map V.int)) ∧ (atKey xs k).isSome = decide (k ∈ ks) := by
  obtain ⟨o, xs, vs, h1, h2, h3, h4, hv, hs⟩ := h.ex
  refine ⟨o, xs, h1, h2, h3, h4, ?_⟩
  by_cases hm : k ∈ ks
  · rw [decide_eq_true hm]
    rw [← h3] at hm
    obtain ⟨x, hx, e⟩ := List.mem_map.mp hm
    obtain ⟨i, hi⟩ := List.mem_iff_getElem?.mp hx
    rw [← e, atKey_at h2.nod hi]
    rfl
  · rw [decide_eq_false hm, atKey_none (by rw [h3]; exact hm)]
    rfl
theorem o_inD (hu : X.A.units + 64 < cLine) (h : DicV m d2 ks ds) (kk : R (.bl (decide (k ∈ ks))) m) : OX X (compareOp .In) (.tup (k.map D.int)) d2 m R := .mk fun F σ H x y pins s v u q1 q2 at_ I rx ry => by
  obtain ⟨p, rfl, dd⟩ := h.read at_.toAt q2
  obtain ⟨c, rfl, sq⟩ := key_read at_.toAt q1
  obtain ⟨o, xs, h1, h2, h3, h4, h5⟩ := dd.has k
  cases rx
  cases ry
  refine wpAny_in_heap (roomI hu) (keyI I sq) h2.sys (dictI I h1 h2 h4) ?_
  rw [h5]
  exact ⟨.bl _, H, I.tok _, rfl, PQ.now at_.toAt (.bl _) kk⟩
theorem o_notinD (hu : X.A.units + 64 < cLine) (h : DicV m d2 ks ds) (kk : R (.bl (!decide (k ∈ ks))) m) : OX X (compareOp .NotIn) (.tup (k.map D.int)) d2 m R := .mk fun F σ H x y pins s v u q1 q2 at_ I rx ry => by
  obtain ⟨p, rfl, dd⟩ := h.read at_.toAt q2
  obtain ⟨c, rfl, sq⟩ := key_read at_.toAt q1
  obtain ⟨o, xs, h1, h2, h3, h4, h5⟩ := dd.has k
  cases rx
  cases ry
  refine wpAny_notIn_heap (roomI hu) (keyI I sq) h2.sys (dictI I h1 h2 h4) ?_
  rw [h5]
  exact ⟨.bl _, H, I.tok _, rfl, PQ.now at_.toAt (.bl _) kk⟩
theorem b_lenD (h : DicV m d ks ds) (kk : R (.int (ks.length : Nat)) m) : BX X (.builtin "len") [d] m R := .mk fun F σ H xs pins s us qs at_ I rs => by
  obtain ⟨v, rfl, q⟩ := qs.one
  obtain ⟨p, rfl, dd⟩ := h.read at_.toAt q
  obtain ⟨o, xs, h1, h2, h3, h4, _⟩ := dd.has []
  obtain ⟨u, rfl, rx⟩ := vals1 rs
  obtain rfl : u = .ref p := rx
  have hz := h2.len
  refine call_len_dictH h2.sys (dictI I h1 h2 h4) (by rw [sizeLine_eq] at hz; omega) ?_
  have e : xs.length = ks.length := by rw [← h3]; simp
  rw [e]
  exact ⟨.int _, H, I.tok _, ⟨_, rfl⟩, PQ.now at_.toAt (.int _) kk⟩
end
end DL


namespace DL
open PySem PySem.Spec PySem.Calls PyProof.Rows L2 RZ

/-! ### the keys of a dict, walked -/
def Itx (d : Addr) (o : Obj) (xs : List (List Int × Addr × Value)) : It :=
  ⟨fun i H => H d = some (objO d o) ∧ i < xs.length, fun i H x H' => H' = H ∧ ∃ y, xs[i]? = some y ∧ x = .ref y.2.1, fun i H => H d = some (objO d o) ∧ xs.length ≤ i⟩
theorem entI_at {xs : List (List Int × Addr × Value)} {i : Nat} {y : List Int × Addr × Value} (h : xs[i]? = some y) : (xs.map entI).toArray[i]? = some (entI y) := by
  simp [h]
theorem turn_Itx {P : Program} {w : World} {K : PySem.W.Frag} {tg : Expr} {d : Addr} {o : Obj} {ep : Nat} {xs : List (List Int × Addr × Value)} (it : Addr) (hod : o.data = .dict (xs.map entI).toArray ep) : Turn P w K tg (Itx d o xs) [it] it (fun i h => h.IsKeyIter it d i xs.length ep) where
  mem := by simp
  obj := fun i h st b hb => by
    have e : b = it := by simpa using hb
    subst e
    obtain ⟨oi, e, c, dd⟩ := st
    exact ⟨oi, e, fun v z => by rw [dd] at z; cases z⟩
  keep := fun i h h' st k => st.at fun oi e => k it (by simp) oi e
  item := by
    intro X hP hw hK hc i pins s σ H E I hf st hg
    subst hP hw hK
    obtain ⟨hd, hi⟩ := hg
    obtain ⟨f0, f1, f2, f3, f4, f5⟩ := hf it (by simp)
    have hgd := objO_get I.hok hd
    have hy : xs[i]? = some xs[i] := List.getElem?_eq_getElem hi
    refine next_key_item st hgd hod (by simp) (entI_at hy) fun h' st' sb => ?_
    have I1 : Inv X pins σ H { s with heap := h' } := I.turned (t' := s.toks) (fun b ob hb e => (sb.2 b hb).trans e) f0 f1 f3 f4 f5
    obtain ⟨oi, e, c, dd⟩ := id st'
    exact ⟨(entI xs[i]).key, rfl, go_of (s := { s with heap := h' }) e c dd (by decide) ⟨.ref xs[i].2.1, H, I1, rfl, ⟨rfl, _, hy, rfl⟩, st', fun b hb => (hf b hb).1⟩⟩
  done := by
    intro X hP hw hK hc i pins s σ H E I hf st hg
    subst hP hw hK
    obtain ⟨hd, hi⟩ := hg
    obtain ⟨f0, f1, f2, f3, f4, f5⟩ := hf it (by simp)
    have hgd := objO_get I.hok hd
    exact next_key_end (I.ok.hd hc) st hgd hod (by simp) hi fun h' eb => ⟨rfl, I.turned (t' := s.toks) (fun b ob hb e => eb b ob hb e) f0 f1 f3 f4 f5⟩
  self := fun A i s Q E st h => by
    refine wpAny_pyIter_slot st.typeIs F.slot_dict_keyiterator_iter (wpAny_call_entry F.slot_dict_keyiterator_iter st.typeIs F.entry_dict_keyiterator_iter ?_ (F.args_dict_keyiterator_iter_1 _))
    show wpAny _ _ (ret (.ref it)) _ _ s
    exact wpAny_pure ⟨_, rfl, "dict_keyiterator", _, st.typeIs, F.slot_dict_keyiterator_next.lookup, h⟩
theorem walk_Itx {d : Addr} {o : Obj} {xs : List (List Int × Addr × Value)} : Walk (Itx d o xs) xs.length (fun H => H d = some (objO d o)) (YAt (xs.map fun y => .ref y.2.1)) :=
  ⟨fun i _ hi q => ⟨q, hi⟩, fun _ q => ⟨q, Nat.le_refl _⟩, fun i H x H' hi q ⟨e, y, hy, ex⟩ => ⟨e, by rw [List.getElem?_map, hy, ex]; rfl⟩⟩
/-- lists, tuples and dicts alike -/
def keyD (k : List Int) : D := .tup (k.map .int)
theorem keys_dens {K : Frag} {F : Hp} : ∀ {xs : List (List Int × Addr × Value)}, (∀ x ∈ xs, SqT K F x.2.1 (x.1.map V.int)) → Dens K F (xs.map fun y => .ref y.2.1) ((xs.map (·.1)).map keyD)
  | [], _ => .nil
  | x :: xs, h => .cons (.tup (h x (by simp)) Dens.of_ints) (keys_dens fun y hy => h y (by simp [hy]))
def iSeqD (X : CD) (it : Expr) : TI := fun σ H R => SE X it σ H fun x H1 => ∃ a, x = .ref a ∧ (((∃ xs, SqL X.K H1 a xs) ∧ R (Itl X.K a) H1) ∨ ((∃ xs, SqT X.K H1 a xs) ∧ R (Itt X.K a) H1) ∨ ∃ o xs, H1 a = some (objO a o) ∧ DictObj a o xs ∧ R (Itx a o xs) H1)
theorem pi_seqD {X : CD} {tg l : Expr} : PI X tg l (iSeqD X l) := by
  refine ⟨fun pins s σ H R I h => ?_⟩
  refine thn (h pins s I) fun v s1 ⟨x, H1, I1, r1, q1⟩ => ?_
  obtain ⟨a, e, ⟨⟨xs, hq⟩, q⟩ | ⟨⟨xs, hq⟩, q⟩ | ⟨o, xs, ho, hd, q⟩⟩ := q1
  · subst e
    cases r1
    obtain ⟨its, rv, p, hz⟩ := I1.list hq
    refine wpAny_pyIter_list p.isList ?_
    exact pi_one (tk := s1.toks) I1 _ (turn_list a _) ⟨_, Heap.get?_push_size _ rfl, rfl, rfl⟩ q
  · subst e
    cases r1
    obtain ⟨its, rv, p, hz⟩ := I1.tuple hq
    refine wpAny_pyIter_tuple (show s1.heap.IsTuple a its.toArray from p) ?_
    exact pi_one (tk := s1.toks) I1 _ (turn_tuple a _) ⟨_, Heap.get?_push_size _ rfl, rfl, rfl⟩ q
  · subst e
    cases r1
    obtain ⟨ep, hdt⟩ := hd.dat
    refine iter_keys hd.sys (objO_get I1.hok ho) hd.ex hdt (pi_one (tk := s1.toks) I1 _ (turn_Itx _ hdt) ⟨_, Heap.get?_push_size _ rfl, rfl, ?_⟩ q)
    simp
def SeqD (d : D) (ds : List D) : Prop := d = .lst ds ∨ d = .tup ds ∨ ∃ ks vs, d = .dI ks vs ∧ ds = ks.map keyD
theorem ix_seqD {X : CD} {tg it : Expr} {ρ : Rn} {m : Led} {R : List D → Led → Prop} (h : EX X it ρ m fun d m1 => ∃ ds, SeqD d ds ∧ R ds m1) : IX X tg it ρ m R := .mk fun F σ H en at_ =>
  SI.of pi_seqD (h.go en at_ fun v d F1 m1 H1 s1 en1 q ⟨ds, ed, r⟩ => by
    rcases ed with rfl | rfl | ⟨ks, vs, rfl, rfl⟩
    · cases q with
      | lst hq hs => exact ⟨_, rfl, .inl ⟨⟨_, .inl (s1.at2.sub.rd hq)⟩, ds, F1, m1, s1, r, by rw [← hs.length]; exact walk_list.mono (fun H' e => .inl (e.rd hq)) fun i H' x H'' _ _ y => yd_at hs y⟩⟩
    · cases q with
      | tup hq hs => exact ⟨_, rfl, .inr (.inl ⟨⟨_, s1.at2.sub.sqT hq⟩, ds, F1, m1, s1, r, by rw [← hs.length]; exact walk_tup.mono (fun H' e => e.sqT hq) fun i H' x H'' _ _ y => yd_at hs y⟩)⟩
    · cases q with
      | dI ho hd hk ht hv hs =>
        subst hk
        refine ⟨_, rfl, .inr (.inr ⟨_, _, s1.at2.sub _ _ ho, hd, _, F1, m1, s1, r, ?_⟩)⟩
        rw [List.length_map, List.length_map]
        exact walk_Itx.mono (fun H' e => e _ _ ho) fun i H' x H'' _ _ y => yd_at (keys_dens ht) y)
end DL


namespace DL
open PySem PySem.Spec PySem.Calls PyProof.Rows L2 RZ

/-! ### new dicts -/
/-- the data of a dict, ready to be laid -/
structure DicX (K : Frag) (F : Hp) (xs : List (List Int × Addr × Value)) (ks : List (List Int)) (ds : List D) : Prop where
  ex : ∃ vs, xs.map (·.1) = ks ∧ (∀ x ∈ xs, SqT K F x.2.1 (x.1.map V.int)) ∧ Vals vs (xs.map (·.2.2)) ∧ Dens K F vs ds
theorem DicX.mono {K : Frag} {F F' : Hp} {xs : List (List Int × Addr × Value)} {ks : List (List Int)} {ds : List D} (h : DicX K F xs ks ds) (e : Ex F F') : DicX K F' xs ks ds := by
  obtain ⟨vs, h1, h2, h3, h4⟩ := h.ex
  exact ⟨vs, h1, fun x hx => e.sqT (h2 x hx), h3, h4.mono e⟩
theorem DicX.den {K : Frag} {F : Hp} {p : Addr} {o : Obj} {xs : List (List Int × Addr × Value)} {ks : List (List Int)} {ds : List D} (h : DicX K F xs ks ds) (hp : F p = some (objO p o)) (hd : DictObj p o xs) : Den K F (.ref p) (.dI ks ds) := by
  obtain ⟨vs, h1, h2, h3, h4⟩ := h.ex
  exact .dI hp hd h1 h2 h3 h4
theorem DicX.mden {K : Frag} {F : Hp} {p : Addr} {o : Obj} {xs : List (List Int × Addr × Value)} {ks : List (List Int)} {ds : List D} (h : DicX K F xs ks ds) (hd : DictObj p o xs) : MDen K F p (.dI ks ds) (objO p o) := by
  obtain ⟨vs, h1, h2, h3, h4⟩ := h.ex
  exact ⟨o, xs, vs, rfl, hd, h1, h2, h3, h4⟩
def RNew (R : D → Led → Prop) (m : Led) (ks : List (List Int)) (ds : List D) : Bool → Prop
  | false => R (.dI ks ds) m
  | true => ∀ p, R (.ref p) (m ++ [(p, .dI ks ds)])
theorem new_dict {K : Frag} {F H : Hp} {m : Led} {p : Addr} {o : Obj} {xs : List (List Int × Addr × Value)} {ks : List (List Int)} {ds : List D} {R : D → Led → Prop} {b : Bool} (at_ : At K F m H) (hp : H p = none) (h : DicX K F xs ks ds) (hd : DictObj p o xs) (k : RNew R m ks ds b) : PQ K F m H R (.ref p) (upd H p (objO p o)) := by
  cases b with
  | false =>
    have nw := Step.new (o := objO p o) at_ hp
    exact ⟨_, _, _, nw, (h.mono nw.ex).den upd_same hd, k⟩
  | true =>
    have nw := Step.newM (o := objO p o) (mo := .dI ks ds) at_ hp (h.mden hd)
    exact ⟨_, _, _, nw, .ref p, k p⟩
def pairD (p : List Int × D) : D := .tup [keyD p.1, p.2]
theorem read_pairs {K : Frag} {F H : Hp} {m : Led} {X : CD} {pins : List (Addr × Obj)} {σ : L2.St} {s : Shared} (hK : X.K = K) (I : Inv X pins σ H s) (at_ : At K F m H) : ∀ {kvs : List (List Int × D)} {xs : List V} {its : List Value}, Dens K F xs (kvs.map pairD) → Vals xs its →
    ∃ ps : List (List Int × Addr × Value), ∃ Ts : List Addr, its = Ts.map Value.ref ∧ Ts.length = ps.length ∧ (∀ (j : Nat) T p, Ts[j]? = some T → ps[j]? = some p → s.heap.IsTuple T #[.ref p.2.1, p.2.2]) ∧ DicX K F ps (kvs.map (·.1)) (kvs.map (·.2))
  | [], _, _, .nil, .nil => ⟨[], [], rfl, rfl, fun j T p h => by simp at h, ⟨[], rfl, by simp, .nil, .nil⟩⟩
  | (k, d) :: kvs, _, _, .cons (.tup hq hs) ds, .cons rx rs => by
    subst hK
    obtain ⟨ps, Ts, e1, e2, e3, ⟨vs, f1, f2, f3, f4⟩⟩ := read_pairs rfl I at_ ds rs
    obtain ⟨v1, v2, rfl, q1, q2⟩ := hs.two
    obtain ⟨its2, r2, tp, _⟩ := I.tuple (at_.sub.sqT hq)
    obtain ⟨u1, u2, rfl, ru1, ru2⟩ := vals2 r2
    cases q1 with
    | @tup b ys _ hb hbs =>
      rw [hbs.ints] at hb
      cases ru1
      cases rx
      refine ⟨(k, b, u2) :: ps, _ :: Ts, by rw [e1]; rfl, by simp [e2], fun j T p h1 h2 => ?_, ⟨v2 :: vs, by simp [f1], fun x hx => ?_, .cons ru2 f3, .cons q2 f4⟩⟩
      · cases j with
        | zero => simp at h1 h2; subst h1 h2; exact tp
        | succ j => exact e3 j T p (by simpa using h1) (by simpa using h2)
      · rcases List.mem_cons.mp hx with rfl | hx
        · exact hb
        · exact f2 x hx
section
variable {X : CD} {m : Led} {R : D → Led → Prop} {d : D} {b : Bool}
theorem b_dict {kvs : List (List Int × D)} (hu : X.A.units + 64 < cLine) (hc : X.calm = true) (h : LstV m d (kvs.map pairD)) (nd : (kvs.map (·.1)).Nodup) (hl : kvs.length ≤ 100000) (k : RNew R m (kvs.map (·.1)) (kvs.map (·.2)) b) : BX X (.type "dict") [d] m R := .mk fun F σ H xs pins s us qs at_ I rs => by
  obtain ⟨v, rfl, q⟩ := qs.one
  obtain ⟨u, rfl, rx⟩ := vals1 rs
  obtain ⟨p, ys, rfl, e1, s1⟩ := h.read at_.toAt q
  cases rx
  obtain ⟨its, rv, ⟨o, n, g1, g2, g3, g4⟩, hz⟩ := I.list (.inl e1)
  obtain ⟨ps, Ts, rfl, hT, hp, dx⟩ := read_pairs rfl I at_.toAt s1 rv
  have hps : ps.map (·.1) = kvs.map (·.1) := by obtain ⟨_, h, _⟩ := dx.ex; exact h
  have hlen : ps.length = kvs.length := by have := congrArg List.length hps; simpa using this
  have ndp : (ps.map (·.1)).Nodup := by rw [hps]; exact nd
  have his : ∀ x ∈ ps, (kI X.prog X.w).is s.heap x.1 x.2.1 := fun x hx => by
    obtain ⟨_, _, h2, _⟩ := dx.ex
    exact keyI I (at_.toAt.sub.sqT (h2 x hx))
  refine call_dict_pairsH (knd := kI X.prog X.w) (ps := ps) (PairArg.list p (Ts.map Value.ref).toArray (fun j => Ts.getD j 0) (ps.map fun x => (Value.ref x.2.1, x.2.2))) (I.ok.hd hc) (by show X.A.in1.in1.units < cLine; simp only [Around.in1]; show X.A.units + 1 + 1 < cLine; omega) ⟨⟨o, n, g1, g2, g3, g4⟩, ?_, ?_⟩ ⟨by simp, ?_⟩ ?_ (by simp; rw [hlen]; exact lenOk hl) ?_
  · simp [hT]
  · intro j kk vv hj
    rw [List.getElem?_map] at hj
    cases e : ps[j]? with
    | none => rw [e] at hj; cases hj
    | some x =>
      rw [e] at hj
      obtain ⟨rfl, rfl⟩ : Value.ref x.2.1 = kk ∧ x.2.2 = vv := by simpa using hj
      have hjl : j < Ts.length := by rw [hT]; exact (List.getElem?_eq_some_iff.mp e).1
      have eT : Ts[j]? = some Ts[j] := List.getElem?_eq_getElem hjl
      refine ⟨by simp [hjl], .inl ?_⟩
      have : Ts.getD j 0 = Ts[j] := by simp [hjl]
      show s.heap.IsTuple (Ts.getD j 0) _
      rw [this]
      exact hp j _ _ eT e
  · intro i key vv hr
    have hr : (ps.map fun x => (Value.ref x.2.1, x.2.2))[i]? = some (key, vv) := hr
    rw [List.getElem?_map] at hr
    cases e : ps[i]? with
    | none => rw [e] at hr; cases hr
    | some x =>
      rw [e] at hr
      obtain ⟨rfl, rfl⟩ : Value.ref x.2.1 = key ∧ x.2.2 = vv := by simpa using hr
      exact ⟨x.1, x.2.1, rfl, rfl⟩
  · intro h' hk x hx
    exact tupleKind_stays.stays (fun b o _ _ e _ => hk b o (Nat.ne_of_lt (Heap.lt_size e)) (by simp) e) (his x hx)
  · intro h' tk hd hk
    rw [storedAllH_nil_of_nodup ps ndp] at hd
    have hz' : ps.length ≤ sizeLine := by rw [hlen]; exact lenOk hl
    have hsys : (s.heap.objs.size == sysModules) = false := beq_eq_false_iff_ne.mpr (Nat.ne_of_gt I.big)
    obtain ⟨o', ho', dobj⟩ := dictObj_of hd hz' hsys
    exact ⟨.ref s.heap.objs.size, upd H s.heap.objs.size (objO s.heap.objs.size o'), I.laid (t' := tk) (fun b u e => hk b u (by simp) e) (Nat.le_refl _) (objO_ok ho'), rfl, new_dict at_.toAt (I.hok.fresh (Nat.le_refl _)) dx dobj k⟩
end
end DL


namespace DL
open PySem PySem.Spec PySem.Calls PyProof.Rows L2 RZ

/-! ### == of dicts whose keys are tuples of ints -/
def rowsH (f : Value → Value → Bool) (kb : List (List Int × Addr × Value)) (ka : List (List Int × Addr × Value)) : Bool := ka.all fun x => match atKey kb x.1 with
  | some y => f x.2.2 y.2
  | none => false
theorem at_of {xs : List (List Int × Addr × Value)} (nd : (xs.map (·.1)).Nodup) {j : Nat} {k : List Int} {p : Addr × Value} (h : xs[j]? = some (k, p)) : atKey xs k = some p := atKey_at nd h
theorem at_none {xs : List (List Int × Addr × Value)} {k : List Int} (h : ∀ (j : Nat) (p : Addr × Value), xs[j]? ≠ some (k, p)) : atKey xs k = none := by
  refine atKey_none fun hm => ?_
  obtain ⟨x, hx, e⟩ := List.mem_map.mp hm
  obtain ⟨j, hj⟩ := List.mem_iff_getElem?.mp hx
  exact h j x.2 (by rw [hj, ← e])
section
variable {prog : Program} {w : World} {A : Around} {E : Value → Shared → Prop} {s : Shared}
theorem samePairsH {nm : String} {a b : Addr} {ka kb : List (List Int × Addr × Value)} {f : Value → Value → Bool} {Q : Bool → Shared → Prop} (hu : A.units < cLine) (ha : (a == sysModules) = false) (hb : (b == sysModules) = false)
    (da : s.heap.DictOfH (kI prog w) a ka) (db : s.heap.DictOfH (kI prog w) b kb) (hits : ∀ x ∈ ka, ∀ y, atKey kb x.1 = some y → SeqAt.EqAt A s x.2.2 y.2 (f x.2.2 y.2)) (h : Q (ka.length == kb.length && rowsH f kb ka) s) :
    wpAny (model prog w) A (Builtin.Dict.samePairs nm a b) Q E s := by
  obtain ⟨oa, es, ep, hoa, _, hda, hka, hia, _⟩ := da
  obtain ⟨ob, es', ep', hob, _, hdb, hkb, hib, hnb⟩ := db
  have hla : es.size = ka.length := size_of_entries hka
  have hlb : es'.size = kb.length := size_of_entries hkb
  unfold Builtin.Dict.samePairs Builtin.Dict.showsAll
  rw [if_neg (show ¬ (a == sysModules) = true by rw [ha]; exact Bool.false_ne_true), if_neg (show ¬ (b == sysModules) = true by rw [hb]; exact Bool.false_ne_true)]
  refine wpAny_bind (wpAny_pure (wpAny_bind (wpAny_pure ?_)))
  refine wpAny_bind (wpAny_dictEntries hoa hda ?_)
  dsimp only
  refine wpAny_bind (wpAny_dictEntries hob hdb ?_)
  rw [← hla, ← hlb] at h
  by_cases hsz : es.size = es'.size
  case neg =>
    rw [if_pos (by simpa using hsz)]
    have hbf : (es.size == es'.size) = false := by simpa using hsz
    rw [hbf, Bool.false_and] at h
    exact wpAny_bind (wpAny_rule (wpAny_pure h))
  case pos =>
    have h' : Q (rowsH f kb ka) s := by simpa [hsz] using h
    rw [if_neg (by rw [hsz]; simp)]
    refine wpAny_bind (wpAny_dictEpoch hoa hda ?_)
    refine wpAny_bind ?_
    rw [Std.Legacy.Range.forIn_eq_forIn_range']
    simp only [Std.Legacy.Range.size, Nat.sub_zero, Nat.add_sub_cancel, Nat.div_one]
    refine wpAny_forIn_list _
      (fun rest q s' => s' = s ∧ q = (none, ()) ∧ ∃ i, rest = List.range' i (es.size - i) ∧ i ≤ es.size ∧ rowsH f kb ka = rowsH f kb (ka.drop i))
      _ ?_ ?_ _ _ ⟨rfl, rfl, 0, by simp, Nat.zero_le _, by simp⟩
    · rintro x rest q s' ⟨rfl, rfl, i, hr, hi, hpre⟩
      have hlt : i < es.size := by
        rcases Nat.lt_or_ge i es.size with h | h
        · exact h
        · rw [Nat.sub_eq_zero_of_le h] at hr; simp at hr
      obtain ⟨rfl, hrest⟩ : x = i ∧ rest = List.range' (i + 1) (es.size - (i + 1)) := by
        have e : es.size - i = (es.size - (i + 1)) + 1 := by omega
        rw [e, List.range'_succ] at hr
        injection hr with h1 h2
        exact ⟨h1, h2⟩
      refine wpAny_bind (wpAny_dictEntries hoa hda ?_)
      have hlt' : x < ka.length := by rw [← hla]; exact hlt
      have hee : es[x]? = some (entryOfKey (kI prog w) ka[x]) := by rw [entry_at hka x, List.getElem?_eq_getElem hlt']; rfl
      rw [hee]
      have hdrop : ka.drop x = ka[x] :: ka.drop (x + 1) := List.drop_eq_getElem_cons hlt'
      have hmem : ka[x] ∈ ka := List.getElem_mem hlt'
      rw [hdrop] at hpre
      have hrow : ∀ l, rowsH f kb (ka[x] :: l) = ((match atKey kb ka[x].1 with | some y => f ka[x].2.2 y.2 | none => false) && rowsH f kb l) := fun l => by simp only [rowsH, List.all_cons]
      show wpAny _ _ (holding [Value.ref ka[x].2.1, ka[x].2.2] _ >>= _) _ _ _
      refine wpAny_bind (wpAny_holding (wpAny_bind (wpAny_dictFind_heap (knd := kI prog w) hu (hia _ hmem) hob hdb hkb hib hnb ?_ ?_)))
      · intro hnone
        have hn := at_none hnone
        rw [hpre, hrow, hn, Bool.false_and] at h'
        refine wpAny_pure ?_
        show wpAny _ _ (if (!false) = true then _ else _) _ _ _
        rw [if_pos (by decide)]
        exact wpAny_pure (wpAny_pure h')
      · intro j p hj
        have hv' := at_of hnb hj
        have hjl : j < es'.size := by rw [hlb]; exact (List.getElem?_eq_some_iff.mp hj).1
        refine wpAny_bind (wpAny_dictEntries hob hdb ?_)
        have hee' : es'[j]? = some (entryOfKey (kI prog w) (ka[x].1, p)) := by rw [entry_at hkb j, hj]; rfl
        rw [hee']
        have he := hits _ hmem _ hv'
        refine wpAny_holding (he prog w _ _ ?_)
        rw [hrow, hv'] at hpre
        dsimp only at hpre
        cases e : f ka[x].2.2 p.2 with
        | false =>
          rw [e, Bool.false_and] at hpre
          rw [hpre] at h'
          show wpAny _ _ (if (!false) = true then _ else _) _ _ _
          rw [if_pos (by decide)]
          exact wpAny_pure (wpAny_pure h')
        | true =>
          rw [e, Bool.true_and] at hpre
          show wpAny _ _ (if (!true) = true then _ else _) _ _ _
          rw [if_neg (by decide)]
          refine wpAny_bind (wpAny_dictEpoch hoa hda ?_)
          rw [if_neg (by simp)]
          exact wpAny_pure ⟨rfl, rfl, x + 1, hrest, hlt, hpre⟩
    · rintro q s' ⟨rfl, rfl, i, hr, hi, hpre⟩
      have hin : i = es.size := by
        rcases Nat.lt_or_ge i es.size with h | h
        · have e : es.size - i = (es.size - (i + 1)) + 1 := by omega
          rw [e, List.range'_succ] at hr; exact nomatch hr
        · exact Nat.le_antisymm hi h
      refine wpAny_pure ?_
      rw [hin, hla, List.drop_length] at hpre
      have : rowsH f kb [] = true := rfl
      rw [hpre, this] at h'
      exact h'
theorem eqH {a b : Addr} {ka kb : List (List Int × Addr × Value)} {f : Value → Value → Bool} {Q : Value → Shared → Prop} (hu : A.units + 1 < cLine) (ha : (a == sysModules) = false) (hb : (b == sysModules) = false)
    (da : s.heap.DictOfH (kI prog w) a ka) (db : s.heap.DictOfH (kI prog w) b kb) (hits : ∀ x ∈ ka, ∀ y, atKey kb x.1 = some y → SeqAt.EqAt A.in1 s x.2.2 y.2 (f x.2.2 y.2)) (h : Q (.bool (ka.length == kb.length && rowsH f kb ka)) s) :
    wpAny (model prog w) A (compareOp .Eq (.ref a) (.ref b)) Q E s := by
  refine wpAny_richCompare_same_room (op := .Eq) da.typeIs db.typeIs PySem.F.slot_dict_eq (wpAny_call_entry PySem.F.slot_dict_eq da.typeIs PySem.F.entry_dict_eq ?_ (PySem.F.args_dict_eq_2 _ _)) (by omega)
  show wpAny _ _ (Builtin.Dict.dictSlotArgs "__eq__" ⟨[.ref a, .ref b], []⟩ >>= _) _ _ s
  refine wpAny_bind ?_
  unfold Builtin.Dict.dictSlotArgs
  refine wpAny_bind (wpAny_notOrdered_dict da.typeIs ?_)
  show wpAny _ _ (pure (Value.ref a, Value.ref b)) _ _ s
  refine wpAny_pure ?_
  refine wpAny_bind (wpAny_isInstance (T := "dict") db.typeIs PySem.F.sub_dict_dict ?_)
  simp only [Bool.not_true, Bool.false_eq_true, if_false]
  refine wpAny_bind (wpAny_pure (wpAny_bind (wpAny_pure ?_)))
  refine wpAny_bind (samePairsH (by show A.units + 1 < cLine; exact hu) ha hb da db hits ?_)
  refine wpAny_pure ⟨_, rfl, ?_, ?_⟩
  · exact fun x => nomatch x
  · simpa using h
theorem neH {a b : Addr} {ka kb : List (List Int × Addr × Value)} {f : Value → Value → Bool} {Q : Value → Shared → Prop} (hu : A.units + 1 < cLine) (ha : (a == sysModules) = false) (hb : (b == sysModules) = false)
    (da : s.heap.DictOfH (kI prog w) a ka) (db : s.heap.DictOfH (kI prog w) b kb) (hits : ∀ x ∈ ka, ∀ y, atKey kb x.1 = some y → SeqAt.EqAt A.in1 s x.2.2 y.2 (f x.2.2 y.2)) (h : Q (.bool (!(ka.length == kb.length && rowsH f kb ka))) s) :
    wpAny (model prog w) A (compareOp .NotEq (.ref a) (.ref b)) Q E s := by
  refine wpAny_richCompare_same_room (op := .NotEq) da.typeIs db.typeIs PySem.F.slot_dict_ne (wpAny_call_entry PySem.F.slot_dict_ne da.typeIs PySem.F.entry_dict_ne ?_ (PySem.F.args_dict_ne_2 _ _)) (by omega)
  show wpAny _ _ (Builtin.Dict.dictSlotArgs "__ne__" ⟨[.ref a, .ref b], []⟩ >>= _) _ _ s
  refine wpAny_bind ?_
  unfold Builtin.Dict.dictSlotArgs
  refine wpAny_bind (wpAny_notOrdered_dict da.typeIs ?_)
  show wpAny _ _ (pure (Value.ref a, Value.ref b)) _ _ s
  refine wpAny_pure ?_
  refine wpAny_bind (wpAny_isInstance (T := "dict") db.typeIs PySem.F.sub_dict_dict ?_)
  simp only [Bool.not_true, Bool.false_eq_true, if_false]
  refine wpAny_bind (wpAny_pure (wpAny_bind (wpAny_pure ?_)))
  refine wpAny_bind (samePairsH (by show A.units + 1 < cLine; exact hu) ha hb da db hits ?_)
  refine wpAny_pure ⟨_, rfl, ?_, ?_⟩
  · exact fun x => nomatch x
  · simpa using h
end
end DL


namespace DL
open PySem PySem.Spec PySem.Calls PyProof.Rows L2 RZ

/-! ### dicts compared, over data -/
def lookD : List (List Int) → List D → List Int → Option D
  | k :: ks, d :: ds, x => if k = x then some d else lookD ks ds x
  | _, _, _ => none
def rowsD (ls : List (List Int)) (es : List D) : List (List Int) → List D → Bool
  | k :: ks, d :: ds => (match lookD ls es k with | some e => PyData.eqv (py d) (py e) | none => false) && rowsD ls es ks ds
  | _, _ => true
def eqDic (ks : List (List Int)) (ds : List D) (ls : List (List Int)) (es : List D) : Bool := ks.length == ls.length && rowsD ls es ks ds
/-- the entries' values read as the data -/
inductive Rds (h : Heap) : List (List Int × Addr × Value) → List (List Int) → List D → Prop
  | nil : Rds h [] [] []
  | cons {x : List Int × Addr × Value} {xs : List (List Int × Addr × Value)} {ks : List (List Int)} {d : D} {ds : List D} {as : List Addr} : Reads h x.2.2 (py d) as → (py d).plain = true → (py d).depth ≤ 20 → Rds h xs ks ds → Rds h (x :: xs) (x.1 :: ks) (d :: ds)
theorem rds_of {X : CD} {pins : List (Addr × Obj)} {σ : L2.St} {H : Hp} {s : Shared} (I : Inv X pins σ H s) : ∀ {xs : List (List Int × Addr × Value)} {vs : List V} {ds : List D}, (∀ d ∈ ds, Sh 20 d) → DpAll X.K H vs (pys ds) → Vals vs (xs.map (·.2.2)) → Rds s.heap xs (xs.map (·.1)) ds
  | [], _, [], _, _, .nil => .nil
  | [], _, d :: ds, _, h, r => by cases h; cases r
  | x :: xs, _, [], _, h, r => by cases h; cases r
  | x :: xs, _, d :: ds, hs, .cons h1 h2, .cons r1 r2 => by
    obtain ⟨as, rd⟩ := Dp.reads I _ _ _ h1 r1
    have ok := (hs d (by simp)).ok
    exact .cons rd ok.1 ok.2 (rds_of I (fun e he => hs e (by simp [he])) h2 r2)
theorem Rds.sm {h : Heap} {k : List Int} : ∀ {xs : List (List Int × Addr × Value)} {ks : List (List Int)} {ds : List D}, Rds h xs ks ds → ∀ {y : Addr × Value}, atKey xs k = some y → ∃ d as, lookD ks ds k = some d ∧ Reads h y.2 (py d) as ∧ (py d).plain = true ∧ (py d).depth ≤ 20
  | _, _, _, .nil, y, e => by simp [atKey] at e
  | x :: xs, _, _, .cons (ks := ks) (d := d) (ds := ds) h1 h2 h3 hs, y, e => by
    by_cases q : x.1 = k
    · have : x.2 = y := by simpa [atKey, q] using e
      subst this
      exact ⟨d, _, by simp [lookD, q], h1, h2, h3⟩
    · have e' : atKey xs k = .some y := by simpa [atKey, q] using e
      obtain ⟨d', as', g1, g2⟩ := hs.sm e'
      exact ⟨d', as', by simp [lookD, q, g1], g2⟩
theorem Rds.nn {h : Heap} {k : List Int} : ∀ {xs : List (List Int × Addr × Value)} {ks : List (List Int)} {ds : List D}, Rds h xs ks ds → atKey xs k = none → lookD ks ds k = none
  | _, _, _, .nil, e => rfl
  | x :: xs, _, _, .cons (ks := ks) (d := d) (ds := ds) h1 h2 h3 hs, e => by
    by_cases q : x.1 = k
    · simp [atKey, q] at e
    · have e' : atKey xs k = Option.none := by simpa [atKey, q] using e
      have := hs.nn e'
      simp [lookD, q, this]
theorem Rds.rows {h : Heap} {kb : List (List Int × Addr × Value)} {ls : List (List Int)} {es : List D} (hb : Rds h kb ls es) : ∀ {ka : List (List Int × Addr × Value)} {ks : List (List Int)} {ds : List D}, Rds h ka ks ds →
    rowsH (fun u v => PyData.eqv (SeqAt.readOf h u) (SeqAt.readOf h v)) kb ka = rowsD ls es ks ds
  | _, _, _, .nil => rfl
  | x :: ka, _, _, .cons (ks := ks) (d := d) (ds := ds) h1 h2 h3 hs => by
    have ih := hb.rows hs
    have e1 : rowsH (fun u v => PyData.eqv (SeqAt.readOf h u) (SeqAt.readOf h v)) kb (x :: ka) = ((match atKey kb x.1 with | some y => PyData.eqv (SeqAt.readOf h x.2.2) (SeqAt.readOf h y.2) | none => false) && rowsH (fun u v => PyData.eqv (SeqAt.readOf h u) (SeqAt.readOf h v)) kb ka) := by simp only [rowsH, List.all_cons] <;> rfl
    rw [e1, ih]
    simp only [rowsD]
    congr 1
    cases e : atKey kb x.1 with
    | none => rw [hb.nn e]
    | some y =>
      obtain ⟨d', as', g1, g2, g3, _⟩ := hb.sm e
      rw [g1]
      simp only [SeqAt.readOf_plain h2 h1, SeqAt.readOf_plain g3 g2]
theorem Rds.len {h : Heap} : ∀ {xs : List (List Int × Addr × Value)} {ks : List (List Int)} {ds : List D}, Rds h xs ks ds → xs.length = ks.length
  | _, _, _, .nil => rfl
  | _, _, _, .cons _ _ _ hs => by simp [hs.len]
theorem Rds.mem {h : Heap} : ∀ {xs : List (List Int × Addr × Value)} {ks : List (List Int)} {ds : List D}, Rds h xs ks ds → ∀ {x}, x ∈ xs → ∃ d as, Reads h x.2.2 (py d) as ∧ (py d).plain = true ∧ (py d).depth ≤ 20
  | _, _, _, .nil, x, hx => by simp at hx
  | _, _, _, .cons h1 h2 h3 hs, x, hx => by
    rcases List.mem_cons.mp hx with rfl | hx
    · exact ⟨_, _, h1, h2, h3⟩
    · exact hs.mem hx
theorem Rds.hits {kb ka : List (List Int × Addr × Value)} {s : Shared} {ls ks : List (List Int)} {es ds : List D} {A : Around} (hu : A.units + 30 < cLine) (hb : Rds s.heap kb ls es) (ha : Rds s.heap ka ks ds) : ∀ x ∈ ka, ∀ y, atKey kb x.1 = some y → SeqAt.EqAt A s x.2.2 y.2 (PyData.eqv (SeqAt.readOf s.heap x.2.2) (SeqAt.readOf s.heap y.2)) := fun x hx y hy => by
  obtain ⟨d, as, h1, h2, h3⟩ := ha.mem hx
  obtain ⟨d', as', _, g2, g3, g4⟩ := hb.sm hy
  rw [SeqAt.readOf_plain h2 h1, SeqAt.readOf_plain g3 g2]
  have : min (py d).depth (py d').depth ≤ (py d).depth := Nat.min_le_left _ _
  exact SeqAt.eqAt_plain _ _ A s _ _ as as' h1 g2 h2 g3 (by omega)
theorem Dens.dpAll {K : Frag} {F H : Hp} {m : Led} (at_ : At K F m H) {vs : List V} {ds : List D} (h : ∀ d ∈ ds, Sh 20 d) (q : Dens K F vs ds) : DpAll K H vs (pys ds) := DWs.dp at_ 20 (DWs.now ds) h q
section
variable {X : CD} {m : Led} {R : D → Led → Prop} {d d1 d2 : D} {ks ls : List (List Int)} {ds es : List D} {b : Bool}
theorem o_eqDic (hu : X.A.units + 64 < cLine) (h1 : DicV m d1 ks ds) (h2 : DicV m d2 ls es) (s1 : ∀ d ∈ ds, Sh 20 d) (s2 : ∀ d ∈ es, Sh 20 d) (k : R (.bl (eqDic ks ds ls es)) m) : OX X (compareOp .Eq) d1 d2 m R := .mk fun F σ H x y pins s v u q1 q2 at_ I rx ry => by
  obtain ⟨p, rfl, ⟨o, xs, vs, a1, a2, a3, a4, a5, a6⟩⟩ := h1.read at_.toAt q1
  obtain ⟨q, rfl, ⟨o', ys, ws, b1, b2, b3, b4, b5, b6⟩⟩ := h2.read at_.toAt q2
  cases rx
  cases ry
  have ra := rds_of I s1 (Dens.dpAll at_.toAt s1 a6) a5
  have rb := rds_of I s2 (Dens.dpAll at_.toAt s2 b6) b5
  rw [a3] at ra
  rw [b3] at rb
  refine eqH (f := fun u v => PyData.eqv (SeqAt.readOf s.heap u) (SeqAt.readOf s.heap v)) (by omega) a2.sys b2.sys (dictI I a1 a2 a4) (dictI I b1 b2 b4) (rb.hits (A := X.A.in1) (by show X.A.units + 1 + 30 < cLine; omega) ra) ?_
  rw [rb.rows ra, ra.len, rb.len]
  exact ⟨.bl _, H, I, rfl, PQ.now at_.toAt (.bl _) k⟩
theorem o_neDic (hu : X.A.units + 64 < cLine) (h1 : DicV m d1 ks ds) (h2 : DicV m d2 ls es) (s1 : ∀ d ∈ ds, Sh 20 d) (s2 : ∀ d ∈ es, Sh 20 d) (k : R (.bl (!eqDic ks ds ls es)) m) : OX X (compareOp .NotEq) d1 d2 m R := .mk fun F σ H x y pins s v u q1 q2 at_ I rx ry => by
  obtain ⟨p, rfl, ⟨o, xs, vs, a1, a2, a3, a4, a5, a6⟩⟩ := h1.read at_.toAt q1
  obtain ⟨q, rfl, ⟨o', ys, ws, b1, b2, b3, b4, b5, b6⟩⟩ := h2.read at_.toAt q2
  cases rx
  cases ry
  have ra := rds_of I s1 (Dens.dpAll at_.toAt s1 a6) a5
  have rb := rds_of I s2 (Dens.dpAll at_.toAt s2 b6) b5
  rw [a3] at ra
  rw [b3] at rb
  refine neH (f := fun u v => PyData.eqv (SeqAt.readOf s.heap u) (SeqAt.readOf s.heap v)) (by omega) a2.sys b2.sys (dictI I a1 a2 a4) (dictI I b1 b2 b4) (rb.hits (A := X.A.in1) (by show X.A.units + 1 + 30 < cLine; omega) ra) ?_
  rw [rb.rows ra, ra.len, rb.len]
  exact ⟨.bl _, H, I, rfl, PQ.now at_.toAt (.bl _) k⟩
/-! d[k] = v -/
theorem putAt_set {xs : List (List Int × Addr × Value)} (nd : (xs.map (·.1)).Nodup) {i : Nat} {x : List Int × Addr × Value} {u : Value} (h : xs[i]? = some x) : xs.map (putAt x.1 u) = xs.set i (x.1, x.2.1, u) := by
  apply List.ext_getElem?
  intro j
  rw [List.getElem?_map]
  by_cases hj : i = j
  · subst hj
    rw [h, List.getElem?_set_self (List.getElem?_eq_some_iff.mp h).1]
    simp [putAt]
  · rw [List.getElem?_set_ne hj]
    cases e : xs[j]? with
    | none => rfl
    | some y =>
      have ne : ¬ y.1 = x.1 := fun q => by
        have h1 : (xs.map (·.1))[i]? = some x.1 := by rw [List.getElem?_map, h]; rfl
        have h2 : (xs.map (·.1))[j]? = some x.1 := by rw [List.getElem?_map, e, ← q]; rfl
        exact hj ((List.getElem?_inj (List.getElem?_eq_some_iff.mp h1).1 nd).mp (h1.trans h2.symm))
      simp [putAt, ne]
theorem vals_set : ∀ {vs : List V} {us : List Value} {i : Nat} {v : V} {u : Value}, Vals vs us → RelV v u → Vals (vs.set i v) (us.set i u)
  | _, _, _, _, _, .nil, _ => .nil
  | _, _, 0, _, _, .cons _ t, r => .cons r t
  | _, _, i + 1, _, _, .cons q t, r => .cons q (vals_set t r)
theorem DicX.old {K : Frag} {F : Hp} {xs : List (List Int × Addr × Value)} {i : Nat} {k : List Int} {v : V} {u : Value} {d : D} (h : DicX K F xs ks ds) (nd : (xs.map (·.1)).Nodup) (hk : ks[i]? = some k) (rv : RelV v u) (q : Den K F v d) (c : Addr) : DicX K F (storedH xs k c u) ks (ds.set i d) := by
  obtain ⟨vs, rfl, h2, h3, h4⟩ := h.ex
  rw [List.getElem?_map] at hk
  cases e : xs[i]? with
  | none => rw [e] at hk; cases hk
  | some x =>
    rw [e] at hk
    obtain rfl : x.1 = k := Option.some.inj hk
    rw [storedH_old (atKey_at nd e), putAt_set nd e]
    refine ⟨vs.set i v, ?_, fun y hy => ?_, ?_, h4.set i q⟩
    · rw [List.map_set]
      apply List.ext_getElem?
      intro j
      by_cases hj : i = j
      · subst hj
        rw [List.getElem?_set_self (by simpa using (List.getElem?_eq_some_iff.mp e).1), List.getElem?_map, e]; rfl
      · rw [List.getElem?_set_ne hj]
    · rcases List.mem_or_eq_of_mem_set hy with hy | rfl
      · exact h2 y hy
      · exact h2 x (List.mem_of_getElem? e)
    · rw [List.map_set]
      exact vals_set h3 rv
theorem DicX.new {K : Frag} {F : Hp} {xs : List (List Int × Addr × Value)} {k : List Int} {v : V} {u : Value} {c : Addr} {d : D} (h : DicX K F xs ks ds) (hk : k ∉ ks) (sq : SqT K F c (k.map V.int)) (rv : RelV v u) (q : Den K F v d) : DicX K F (storedH xs k c u) (ks ++ [k]) (ds ++ [d]) := by
  obtain ⟨vs, rfl, h2, h3, h4⟩ := h.ex
  rw [storedH_new (atKey_none hk)]
  refine ⟨vs ++ [v], by simp, fun y hy => ?_, ?_, h4.snoc q⟩
  · rcases List.mem_append.mp hy with hy | hy
    · exact h2 y hy
    · obtain rfl : y = (k, c, u) := by simpa using hy
      exact sq
  · rw [List.map_append]
    exact h3.append (.cons rv .nil)
def tSetI : TSet := fun o ix v H Q => ∃ (a c : Addr) (ob : Obj) (xs : List (List Int × Addr × Value)) (k : List Int), o = .ref a ∧ ix = .ref c ∧ H a = some (objO a ob) ∧ DictObj a ob xs ∧ xs.length < sizeLine ∧ Q H
theorem set_dict {K : Frag} (hu : X.A.units + 64 < cLine) : PSet X fun o ix v H Q => ∃ (a c : Addr) (ob : Obj) (xs : List (List Int × Addr × Value)) (k : List Int), o = .ref a ∧ ix = .ref c ∧ H a = some (objO a ob) ∧ DictObj a ob xs ∧ (∀ x ∈ xs, SqT X.K H x.2.1 (x.1.map V.int)) ∧ SqT X.K H c (k.map V.int) ∧ xs.length < sizeLine ∧
    ∀ u ob', RelV v u → DictObj a ob' (storedH xs k c u) → Q (upd H a (objO a ob')) := by
  intro pins s σ H o i v ov iv u Q I r1 r2 r3 ⟨a, c, ob, xs, k, e1, e2, h1, h2, h3, h4, hl, q⟩
  subst e1 e2
  cases r1
  cases r2
  refine wpAny_setItem_heap (hsz := h2.len) (roomI hu) (keyI I h4) (dictI I h1 h2 h3) fun h' hd hs => ?_
  obtain ⟨ob', ho', dobj⟩ := dictObj_of hd (by have := storedH_length xs k c u; omega) h2.sys
  exact ⟨_, I.write (x := a) (e := a) (by rw [h1]; exact True.intro) (.inl rfl) (fun b ub hb e => (hs.2 b hb).trans e) ⟨_, ho'⟩ (objO_ok ho'), q u ob' r3 dobj⟩
theorem st_dict {a : Addr} {n : Nat} {k : List Int} {d : D} {R : Led → Prop} (hu : X.A.units + 64 < cLine) (hm : m[n]? = some (a, .dI ks ds)) (hl : ks.length < 100000)
    (kk : (∃ i, ks[i]? = some k ∧ R (m.set n (a, .dI ks (ds.set i d)))) ∨ (k ∉ ks ∧ R (m.set n (a, .dI (ks ++ [k]) (ds ++ [d]))))) : StX X (.ref a) (keyD k) d m R := .mk ⟨_, set_dict (K := X.K) hu, fun F H o ix v q1 q2 q3 at_ => by
  cases q1
  obtain ⟨c, rfl, sq⟩ := key_read at_.toAt q2
  obtain ⟨hh, ⟨ob, xs, vs, rfl, h1, h2, h3, h4, h5⟩, e⟩ := at_.get hm
  have hlx : xs.length = ks.length := by rw [← h2, List.length_map]
  refine ⟨a, c, ob, xs, k, rfl, rfl, e, h1, fun x hx => at_.sub.sqT (h3 x hx), sq, lenLt (by rw [hlx]; exact hl), fun u ob' ru dobj => ?_⟩
  have dx : DicX X.K F xs ks ds := ⟨vs, h2, h3, h4, h5⟩
  have sqF : SqT X.K F c (k.map V.int) := by
    cases q2 with
    | tup h hs => rw [hs.ints] at h; exact h
  rcases kk with ⟨i, hi, r⟩ | ⟨hk, r⟩
  · exact ⟨F, _, Step.write (o' := .dI ks (ds.set i d)) at_.toAt hm ((dx.old h1.nod hi ru q3 c).mden dobj), r⟩
  · exact ⟨F, _, Step.write (o' := .dI (ks ++ [k]) (ds ++ [d])) at_.toAt hm ((dx.new hk sqF ru q3).mden dobj), r⟩⟩
/-! isinstance -/
end
end DL


namespace DL
open PySem PySem.Spec PySem.Calls PyProof.Rows L2 RZ

/-! ### {k: v for ..}: keys that are tuples of ints -/
abbrev eD : Obj := { cls := .type "dict", data := .dict #[] }
theorem emptyDict_obj {p : Addr} (h : (p == sysModules) = false) : DictObj p eD [] := ⟨⟨rfl, rfl, rfl⟩, ⟨_, rfl⟩, by simp, Nat.zero_le _, h⟩
theorem dset_ok {X : Cx} {pins : List (Addr × Obj)} {σ : L2.St} {H : Hp} {s : Shared} {E : Value → Shared → Prop} {p c : Addr} {o : Obj} {xs : List (List Int × Addr × Value)} {k : List Int} {r : Value} {Q : Unit → Shared → Prop} (hu : X.A.units < cLine) (I : Inv X pins σ H s) (hp : H p = some (objO p o)) (hd : DictObj p o xs) (ht : ∀ x ∈ xs, SqT X.K H x.2.1 (x.1.map V.int))
    (hk : SqT X.K H c (k.map V.int)) (hz : xs.length < sizeLine) (h : ∀ s' o', DictObj p o' (storedH xs k c r) → Inv X pins σ (upd H p (objO p o')) s' → Q () s') : wpAny (model X.prog X.w) X.A (dictSet p (.ref c) r) Q E s := by
  refine wpAny_dictSet_heap (knd := kI X.prog X.w) (hsz := hd.len) hu (keyI I hk) (dictI I hp hd ht) fun h' dd sb => ?_
  obtain ⟨o', ho', dobj⟩ := dictObj_of dd (by have := storedH_length xs k c r; omega) hd.sys
  exact h _ o' dobj (I.write (x := p) (e := p) (by rw [hp]; exact True.intro) (.inl rfl) (fun b ub hb e => (sb.2 b hb).trans e) ⟨_, ho'⟩ (objO_ok ho'))
/-- the turn's end: what is put, what stands then -/
def DcPut (K : Frag) (p : Addr) (y z : V) (H : Hp) (Nx : Hp → Prop) : Prop := ∃ (c : Addr) (k : List Int) (o : Obj) (xs : List (List Int × Addr × Value)), y = .ref c ∧ SqT K H c (k.map V.int) ∧ H p = some (objO p o) ∧ DictObj p o xs ∧ (∀ x ∈ xs, SqT K H x.2.1 (x.1.map V.int)) ∧ xs.length < sizeLine ∧
  ∀ u o', RelV z u → DictObj p o' (storedH xs k c u) → Nx (upd H p (objO p o'))
def tDcI (K : Frag) (wi : TI) (g : TG) (tt : TT) (tk tv : TE) (vs : List Nat) : TE := fun σ H Q => wi σ H fun J H1 => ∀ p o, H1 p = none → DictObj p o [] → ∃ W : Nat → Nat → Hp → Prop, (∃ m, W 0 m (upd H1 p (objO p o))) ∧ ∀ i m H, W i m H →
  (J.stop i H ∧ Q (.ref p) H) ∨ (J.go i H ∧ ∃ Nx : Hp → Prop, (∀ H', Nx H' → ∃ m', m' < m ∧ W (i + 1) m' H') ∧ ∀ x H', J.yld i H x H' → g x (wipe σ vs) H' fun σ2 H2 => wipe σ2 vs = wipe σ vs ∧ tt σ2 H2 fun b H3 =>
    if b = true then tk σ2 H3 fun y H4 => tv σ2 H4 fun z H5 => DcPut K p y z H5 Nx else Nx H3)
theorem dcI_core {X : Cx} {pins : List (Addr × Obj)} {s : Shared} {σ : L2.St} {H : Hp} {Q : VK} {kx vx tg iter : Expr} {ifs : List Expr} {scope : Scope} {own : List (Str × Nat)} {pos pos' : Pos} {wi : TI} {g : TG} {tt : TT} {tk tv : TE} {Qf : Value → Shared → Prop}
    (hc : X.calm = true) (hu : X.A.units < cLine) (hN : X.N.Nodup) (I : Inv X pins σ H s) (hi : PI X tg iter wi) (ok : BlkOk X.N X.env.scope scope own)
    (hg : ∀ s H C cl fp, PG (X.blk s H scope (compEnvC scope cl C X.env) fp) tg g) (ht : ∀ s H C cl fp, PTs (X.blk s H scope (compEnvC scope cl C X.env) fp) ifs tt)
    (hk : ∀ s H C cl fp, PE (X.blk s H scope (compEnvC scope cl C X.env) fp) kx tk) (he : ∀ s H C cl fp, PE (X.blk s H scope (compEnvC scope cl C X.env) fp) vx tv)
    (hs : ∀ x, foldedSetIterable iter X.env x = pure x) (h : tDcI X.K wi g tt tk tv (own.map (·.2)) σ H Q)
    (hRR : ∀ D C s' m H', Inv X pins σ H' s' → Q (.ref D) H' → s'.heap.Ns C m → FpOk X pins H' C → compPost (model X.prog X.w) X.A X.xe none Qf (.ref D) C (.ok .next) s') :
    wpAny (model X.prog X.w) X.A (comprehension (.DictComp kx vx [⟨tg, iter, ifs, 0⟩] scope pos) scope X.env pos' newDict false (eval iter X.env) none) Qf X.xe s := by
  have hfree : ∀ y ∈ scope.names, y.2 = .free → ∃ c, X.env.cells.lookup y.1 = some c := fun y hy e => (ok.free y hy e).elim (fun k => I.ok.has _ (.inl k)) fun k => I.ok.has _ (.inr k)
  refine wpAny_comprehension_free (use := none) rfl hs (closure_ok hfree) ok.kind (fun y hy e => by rw [ok.uniq y hy, e]) (thn (hi.run pins s σ H _ I h) fun xv s1 hx => thn hx fun itv s2 ⟨it, fp, tn, J, H2, e, I2, T, st2, f2, q⟩ => ?_)
  subst e
  refine wpAny_newObj_type (newEnv_comp ?_)
  generalize hp : s2.heap.objs.size = p
  have hpn : H2 p = none := I2.hok.fresh (Nat.le_of_eq hp)
  have hsys : (p == sysModules) = false := by rw [← hp]; exact beq_eq_false_iff_ne.mpr (Nat.ne_of_gt I2.big)
  obtain ⟨W, ⟨m0, w0⟩, turn⟩ := q p eD hpn (emptyDict_obj hsys)
  generalize hs3 : ({ s2 with heap := s2.heap.push { cls := .type "dict", data := .dict #[] } } : Shared) = s3
  have h3 : s3.heap = s2.heap.push eD := by rw [← hs3]
  have I3 : Inv X pins σ (upd H2 p (objO p eD)) s3 := by
    rw [← hs3]
    refine I2.laid (t' := s2.toks) (fun b o e => Heap.get?_push_of_some _ e) (Nat.le_of_eq hp) (objO_ok ?_)
    rw [← hp]
    exact Heap.get?_push_size _ rfl
  have f3 : ∀ b ∈ fp, FpOk X pins (upd H2 p (objO p eD)) b ∧ b < s3.heap.objs.size := fun b hb => by
    obtain ⟨o, e, _⟩ := T.obj _ _ st2 b hb
    have hlt := Heap.lt_size e
    refine ⟨⟨?_, (f2 b hb).2⟩, by rw [h3, Heap.size_push]; exact Nat.lt_succ_of_lt hlt⟩
    rw [upd_ne (by rw [← hp]; exact Nat.ne_of_lt hlt)]
    exact (f2 b hb).1
  have st3 : tn 0 s3.heap := T.keep _ _ _ st2 fun b _ o e => by rw [h3]; exact Heap.get?_push_of_some _ e
  generalize hH3 : upd H2 p (objO p eD) = H3 at I3 f3 w0
  have I4 := block_start I3 ok hN f3
  generalize hce : compEnvC scope (cellsFrom (s3.heap.objs.size + 1) scope.names (cloFrom X.env.cells scope.names [])) s3.heap.objs.size X.env = ce at I4
  have pg : PG (X.blk s3 H3 scope ce fp) tg g := by rw [← hce]; exact hg _ _ _ _ _
  have pt : PTs (X.blk s3 H3 scope ce fp) ifs tt := by rw [← hce]; exact ht _ _ _ _ _
  have pk : PE (X.blk s3 H3 scope ce fp) kx tk := by rw [← hce]; exact hk _ _ _ _ _
  have pe : PE (X.blk s3 H3 scope ce fp) vx tv := by rw [← hce]; exact he _ _ _ _ _
  have cL : ce.locals = s3.heap.objs.size := by subst hce; rfl
  show codeAny _ _ (.compStart (.DictComp kx vx [⟨tg, iter, ifs, 0⟩] scope pos) 0 (.ref it) (.ref p) (compEnvC scope (cellsFrom (s3.heap.objs.size + 1) scope.names (cloFrom X.env.cells scope.names [])) s3.heap.objs.size X.env)) (compPost (model X.prog X.w) X.A X.xe none Qf (.ref p) s3.heap.objs.size) { s3 with heap := pushCells (s3.heap.push { cls := .type "dict", data := .dict #[] }) scope.names }
  rw [hce]
  generalize hs4 : ({ s3 with heap := pushCells (s3.heap.push { cls := .type "dict", data := .dict #[] }) scope.names } : Shared) = s4 at I4 ⊢
  have st4 : tn 0 s4.heap := T.keep _ _ _ st3 fun b _ o e => by rw [← hs4]; exact pushCells_keeps _ _ _ _ (Heap.get?_push_of_some _ e)
  have stat : ∀ {σ' : L2.St} {H' : Hp} {s' : Shared}, Inv (X.blk s3 H3 scope ce fp) [] σ' H' s' → (∀ b ∈ fp, H' b = none) → ∀ b ∈ fp, FpOk (X.blk s3 H3 scope ce fp) [] H' b := fun {σ' H' s'} I' hn b hb =>
    ⟨hn b hb, (I'.ok.exf b hb).1, I'.ok.exfs b hb, .inl hb, fun x c e => (I'.ok.exf b hb).2 x c e, fun q hq => by have : q ∈ ([] : List (Addr × Obj)) ++ [] := hq; simp at this⟩
  have loop : codeAny (model X.prog X.w) X.A (.compLoop (.DictComp kx vx [⟨tg, iter, ifs, 0⟩] scope pos) 0 (.ref it) (.ref p) ce) (compPost (model X.prog X.w) X.A X.xe none Qf (.ref p) s3.heap.objs.size) s4 := by
    refine compLoop_anyD (fun n s' => ∃ i H', Inv (X.blk s3 H3 scope ce fp) [] (wipe σ (own.map (·.2))) H' s' ∧ tn i s'.heap ∧ (∀ b ∈ fp, H' b = none) ∧ W i n H') ?_ m0 ⟨0, H3, I4, st4, fun b hb => (f3 b hb).1.1, w0⟩
    rintro n s5 ⟨i, H5, I5, st5, n5, w5⟩
    rcases turn i n H5 w5 with ⟨stop, qq⟩ | ⟨go, Nx, hNx, step⟩
    · refine thnF (T.done (X.blk s3 H3 scope ce fp) rfl rfl rfl hc i [] s5 _ H5 (fun _ _ => False) I5 (stat I5 n5) st5 stop) fun r s6 ⟨hr, I6⟩ => ?_
      subst hr
      have I7 : Inv X pins σ H5 s6 := I3.call' (ch := fp) I6.os I6.base I6.hok I6.bare fun b hb => let f := (f3 b hb).1.2; ⟨f.2.2.1, f.1, f.2.2.2.1, f.2.2.2.2⟩
      have nC : H5 s3.heap.objs.size = none := cL ▸ (show H5 ce.locals = none from I6.free)
      obtain ⟨m, hn, _⟩ := I6.loc
      exact hRR p s3.heap.objs.size s6 m H5 I7 qq (cL ▸ (show s6.heap.Ns ce.locals m from hn)) (I3.fpOk (Nat.le_refl _) nC)
    · refine thnF (T.item (X.blk s3 H3 scope ce fp) rfl rfl rfl hc i [] s5 _ H5 (fun _ _ => False) I5 (stat I5 n5) st5 go) fun r s6 ⟨u, hr, h6⟩ => ?_
      subst hr
      refine thnF h6 fun _ s7 ⟨x, H7, I7, r7, y7, st7, n7⟩ => ?_
      refine thnF (pg.run _ s7 _ H7 x u _ (I7.pinned (stat I7 n7) (T.obj _ _ st7)) r7 (step x H7 y7)) fun _ s8 ⟨σ8, H8, I8, hw8, q8⟩ => ?_
      refine thnF (pt.run _ s8 σ8 H8 _ I8 q8) fun b s9 ⟨H9, I9, q9⟩ => ?_
      have fin : ∀ {s' : Shared} {H' : Hp}, Inv (X.blk s3 H3 scope ce fp) ([] ++ pinsAt fp s7.heap) σ8 H' s' → Nx H' → ∃ m, m < n ∧ ∃ i H', Inv (X.blk s3 H3 scope ce fp) [] (wipe σ (own.map (·.2))) H' s' ∧ tn i s'.heap ∧ (∀ b ∈ fp, H' b = none) ∧ W i m H' := fun {s' H'} I' nx => by
        obtain ⟨m', hm, w'⟩ := hNx H' nx
        have pin' : ∀ b ∈ fp, ∀ o, s7.heap.get? b = some o → s'.heap.get? b = some o ∧ H' b = none := fun b hb o e =>
          let z := I'.pin (b, o) (List.mem_append_right _ (List.mem_append_right _ (mem_pinsAt hb e))); ⟨z.1, z.2.1⟩
        refine ⟨m', hm, i + 1, H', (I'.unpinned (pins := [])).weak (by rw [← hw8, wipe_length]) (fun j v e => (wipe_some (hw8 ▸ e)).1), T.keep _ _ _ st7 fun b hb o e => (pin' b hb o e).1, fun b hb => ?_, w'⟩
        obtain ⟨o, e, _⟩ := T.obj _ _ st7 b hb
        exact (pin' b hb o e).2
      cases b with
      | false =>
        rw [if_neg Bool.false_ne_true] at q9
        rw [if_neg Bool.false_ne_true]
        exact fin I9 q9
      | true =>
        rw [if_pos rfl] at q9
        rw [if_pos rfl]
        refine thnF (pk.run _ s9 σ8 H9 _ I9 q9) fun z s10 ⟨yk, H10, I10, r10, q10⟩ => ?_
        refine thnF (pe.run _ s10 σ8 H10 _ I10 q10) fun z2 s11 ⟨yv, H11, I11, r11, c, k, o, xs, ek, sq, hp11, hd11, ht11, hz11, nx⟩ => ?_
        subst ek
        cases r10
        exact dset_ok (X := X.blk s3 H3 scope ce fp) hu I11 hp11 hd11 ht11 sq hz11 fun s12 o' dobj I12 => fin I12 (nx z2 o' r11 dobj)
  exact codeAny_compStart_dict loop (T.self X.A 0 _ _ _ st4 loop)
theorem pe_dcI {X : Cx} {kx vx tg iter : Expr} {ifs : List Expr} {scope : Scope} {own : List (Str × Nat)} {pos : Pos} {wi : TI} {g : TG} {tt : TT} {tk tv : TE} (hc : X.calm = true) (hu : X.A.units < cLine) (hN : X.N.Nodup) (hi : PI X tg iter wi) (ok : BlkOk X.N X.env.scope scope own)
    (hg : ∀ s H C cl fp, PG (X.blk s H scope (compEnvC scope cl C X.env) fp) tg g) (ht : ∀ s H C cl fp, PTs (X.blk s H scope (compEnvC scope cl C X.env) fp) ifs tt)
    (hk : ∀ s H C cl fp, PE (X.blk s H scope (compEnvC scope cl C X.env) fp) kx tk) (he : ∀ s H C cl fp, PE (X.blk s H scope (compEnvC scope cl C X.env) fp) vx tv)
    (hs : ∀ x, foldedSetIterable iter X.env x = pure x := by intro _; rfl) : PE X (.DictComp kx vx [⟨tg, iter, ifs, 0⟩] scope pos) (tDcI X.K wi g tt tk tv (own.map (·.2))) := by
  refine ⟨fun pins s σ H Q I h => ?_⟩
  rw [arm_eval_DictComp]
  refine dcI_core hc hu hN I hi ok hg ht hk he hs h fun D C s' m H' I' q hn f => ⟨m, hn, fun h'' sb => ?_⟩
  obtain ⟨f0, f1, f2, f3, f4, f5⟩ := f
  exact ⟨.ref D, H', I'.turned (t' := s'.toks) (fun b o hb e => (sb.2 b hb).trans e) f0 f1 f3 f4 f5, rfl, q⟩
end DL


namespace DL
open PySem PySem.Spec PySem.Calls PyProof.Rows L2 RZ

/-! ### dict comprehensions over data -/
theorem dc_it {K : Frag} {J : It} {n : Nat} {G : Hp → Prop} {Y : Nat → Hp → V → Hp → Prop} (w : Walk J n G Y) {g : TG} {tt : TT} {tk tv : TE} {vs : List Nat} {σ : L2.St} {H1 : Hp} {p : Addr} {o : Obj} {Qd : Hp → Prop} (Pv : Nat → Hp → Prop) (h0 : Pv 0 (upd H1 p (objO p o))) (hG : ∀ i H, i ≤ n → Pv i H → G H)
    (hs : ∀ i x H H', i < n → Pv i H → Y i H x H' → g x (wipe σ vs) H' fun σ2 H2 => wipe σ2 vs = wipe σ vs ∧ tt σ2 H2 fun b H3 => if b = true then tk σ2 H3 fun y H4 => tv σ2 H4 fun z H5 => DcPut K p y z H5 (Pv (i + 1)) else Pv (i + 1) H3) (hd : ∀ H, Pv n H → Qd H) :
    ∃ W : Nat → Nat → Hp → Prop, (∃ m, W 0 m (upd H1 p (objO p o))) ∧ ∀ i m H, W i m H →
      (J.stop i H ∧ Qd H) ∨ (J.go i H ∧ ∃ Nx : Hp → Prop, (∀ H', Nx H' → ∃ m', m' < m ∧ W (i + 1) m' H') ∧ ∀ x H', J.yld i H x H' → g x (wipe σ vs) H' fun σ2 H2 => wipe σ2 vs = wipe σ vs ∧ tt σ2 H2 fun b H3 =>
        if b = true then tk σ2 H3 fun y H4 => tv σ2 H4 fun z H5 => DcPut K p y z H5 Nx else Nx H3) := by
  refine ⟨fun i m H => m + i = n ∧ Pv i H, ⟨n, rfl, h0⟩, fun i m H ⟨e, pv⟩ => ?_⟩
  have q := hG i H (by omega) pv
  by_cases hlt : i < n
  · exact .inr ⟨w.goes i H hlt q, Pv (i + 1), fun H' p' => ⟨m - 1, by omega, by omega, p'⟩, fun x H' y => hs i x H H' hlt pv (w.yields i H x H' hlt q y)⟩
  · have e : i = n := by omega
    subst e
    exact .inl ⟨w.stops H q, hd H pv⟩
/-- what the put asks over data -/
def PutD (ks : List (List Int)) (vs : List D) (k v : D) (P : List (List Int) → List D → Prop) : Prop := ∃ kk, k = keyD kk ∧ ks.length < 100000 ∧ ((kk ∉ ks ∧ P (ks ++ [kk]) (vs ++ [v])) ∨ ∃ n, ks[n]? = some kk ∧ P ks (vs.set n v))
def CompD (X : CD) (scope : Scope) (ifs : List Expr) (kx vx : Expr) (y : Str) (j : Nat) (ρ : Rn) (R : List (List Int) → List D → Led → Prop) (ds : List D) (m1 : Led) : Prop := ∃ I : Nat → List (List Int) → List D → Led → Prop, I 0 [] [] m1 ∧
  (∀ i d ks vs m', ds[i]? = some d → I i ks vs m' → ∃ ρ2, SetAt ρ j y d ρ2 ∧ ∀ (s : Shared) (H0 : Hp) (C : Addr) (cl : List (Str × Addr)) (fp : List Addr),
    match ifs with
    | [] => EX (X.blk s H0 scope (compEnvC scope cl C X.env) fp) kx ρ2 m' fun k m2 => ∀ (s : Shared) (H0 : Hp) (C : Addr) (cl : List (Str × Addr)) (fp : List Addr), EX (X.blk s H0 scope (compEnvC scope cl C X.env) fp) vx ρ2 m2 fun v m3 => PutD ks vs k v fun ks vs => I (i + 1) ks vs m3
    | [c] => TX (X.blk s H0 scope (compEnvC scope cl C X.env) fp) c ρ2 m' fun b m1 => (b = true → ∀ (s : Shared) (H0 : Hp) (C : Addr) (cl : List (Str × Addr)) (fp : List Addr), EX (X.blk s H0 scope (compEnvC scope cl C X.env) fp) kx ρ2 m1 fun k m2 => ∀ (s : Shared) (H0 : Hp) (C : Addr) (cl : List (Str × Addr)) (fp : List Addr), EX (X.blk s H0 scope (compEnvC scope cl C X.env) fp) vx ρ2 m2 fun v m3 => PutD ks vs k v fun ks vs => I (i + 1) ks vs m3) ∧ (b = false → I (i + 1) ks vs m1)
    | _ => False) ∧ ∀ ks vs m', I ds.length ks vs m' → R ks vs m'
section
variable {X : CD} {kx vx it : Expr} {scope : Scope} {ρ : Rn} {m : Led} {R : D → Led → Prop} {pos py : Pos} {y : Str} {j : Nat}
theorem dc_read {ifs : List Expr} {F σ H} (hl1 : ifs.length ≤ 1) (en : Env X F σ ρ) (at_ : AtX X F m H) (R : List (List Int) → List D → Led → Prop) (QQ : VK) (h : IX X (.Name y py) it ρ m (CompD X scope ifs kx vx y j ρ R))
    (fin : ∀ p o xs ks ds F1 m1 H1 F' m' H', Step X.K F m H F1 m1 H1 → H1 p = none → Step X.K F1 m1 H1 F' m' H' → F' p = none → p ∉ keys m' → H' p = some (objO p o) → DictObj p o xs → DicX X.K F' xs ks ds → R ks ds m' → QQ (.ref p) H') : tDcI X.K (SI X (.Name y py) it) (gName j) (STs X scope ifs) (SEb X scope kx) (SEb X scope vx) [j] σ H QQ := by
  refine (h.run F σ H en at_).mono fun J H1 ⟨ds, F1, m1, st, ⟨I, i0, turn, done⟩, w⟩ => fun p o hp hob => ?_
  have hF1 : F1 p = none := st.at2.sub.free hp
  have hk1 : p ∉ keys m1 := st.at2.notkey hp
  refine dc_it w (fun i H' => ∃ o xs ks vs F' m', Step X.K F1 m1 H1 F' m' H' ∧ H' p = some (objO p o) ∧ DictObj p o xs ∧ DicX X.K F' xs ks vs ∧ I i ks vs m' ∧ F' p = none ∧ p ∉ keys m')
    ⟨o, [], [], [], F1, m1, (Step.refl st.at2).poke hp hF1 hk1, upd_same, hob, ⟨[], rfl, by simp, .nil, .nil⟩, i0, hF1, hk1⟩
    (fun i H' _ ⟨_, _, _, _, F', m', s', _⟩ => s'.ex.trans s'.at2.sub) (fun i x H' H'' hi ⟨o, xs, ks, vs, F', m', s', hl, hob, dx, hI, hF', hk'⟩ yy => ?_) (fun H' ⟨o, xs, ks, vs, F', m', s', hl, hob, dx, hI, hF', hk'⟩ => ?_)
  · obtain ⟨F3, d, hd, s3, q⟩ := yy F' m' s'.ex s'.at2
    obtain ⟨ρ2, hset, turn⟩ := turn i d ks vs m' hd hI
    obtain ⟨a1, a2, a3⟩ := s3.stay hF' hk' hl
    have en2 := wipe1 (en.mono (st.ex.trans (s'.ex.trans s3.ex))) hset q
    refine ⟨wipe_back (by simp), ?_⟩
    have elt : ∀ {F4 m4 H4}, Step X.K F3 m' H'' F4 m4 H4 → Env X F4 ((wipe σ [j]).set j (some x)) ρ2 → (∀ (s : Shared) (H0 : Hp) (C : Addr) (cl : List (Str × Addr)) (fp : List Addr), EX (X.blk s H0 scope (compEnvC scope cl C X.env) fp) kx ρ2 m4 fun k m2 => ∀ (s : Shared) (H0 : Hp) (C : Addr) (cl : List (Str × Addr)) (fp : List Addr), EX (X.blk s H0 scope (compEnvC scope cl C X.env) fp) vx ρ2 m2 fun v m3 => PutD ks vs k v fun ks vs => I (i + 1) ks vs m3) →
        SEb X scope kx ((wipe σ [j]).set j (some x)) H4 fun y H5 => SEb X scope vx ((wipe σ [j]).set j (some x)) H5 fun z H6 => DcPut X.K p y z H6 fun H' => ∃ o xs ks vs F' m', Step X.K F1 m1 H1 F' m' H' ∧ H' p = some (objO p o) ∧ DictObj p o xs ∧ DicX X.K F' xs ks vs ∧ I (i + 1) ks vs m' ∧ F' p = none ∧ p ∉ keys m' := by
      intro F4 m4 H4 s4 en4 hh s H0 C cl fp
      refine EX.go (hh s H0 C cl fp) en4.blk (.quiet s4.at2) fun y dk F5 m5 H5 s5 en5 q5 hh2 => ?_
      intro s H0 C cl fp
      refine EX.go (hh2 s H0 C cl fp) (en4.mono s5.ex).blk (.quiet s5.at2.toAt) fun z dv F6 m6 H6 s6 _ q6 hh3 => ?_
      obtain ⟨kk, rfl, hlen, hput⟩ := hh3
      have s56 := s5.st.trans s6.st
      have s46 := s4.trans s56
      obtain ⟨b1, b2, b3⟩ := s46.stay a2 a3 a1
      have dx6 := dx.mono (s3.ex.trans s46.ex)
      cases q5 with
      | @tup c ys _ hc hcs =>
        have sqF : SqT X.K F6 c (kk.map V.int) := by rw [hcs.ints] at hc; exact s6.ex.sqT hc
        have ht6 : ∀ x ∈ xs, SqT X.K F6 x.2.1 (x.1.map V.int) := let ⟨_, _, h, _⟩ := dx6.ex; h
        have hlx : xs.length = ks.length := by obtain ⟨_, h, _⟩ := dx6.ex; rw [← h, List.length_map]
        refine ⟨c, kk, o, xs, rfl, s46.at2.sub.sqT sqF, b1, hob, fun x hx => s46.at2.sub.sqT (ht6 x hx), lenLt (by rw [hlx]; exact hlen), fun u o' ru dobj => ?_⟩
        have sp := ((s'.trans s3).trans s46).poke (o := objO p o') hp b2 b3
        rcases hput with ⟨hk, r⟩ | ⟨n, hn, r⟩
        · exact ⟨o', _, _, _, F6, m6, sp, upd_same, dobj, dx6.new hk sqF ru q6, r, b2, b3⟩
        · exact ⟨o', _, _, _, F6, m6, sp, upd_same, dobj, dx6.old hob.nod hn ru q6 c, r, b2, b3⟩
    match ifs, turn with
    | [], turn =>
      unfold STs
      dsimp only
      rw [if_pos rfl]
      exact elt (Step.refl s3.at2) en2 fun s H0 C cl fp => turn s H0 C cl fp
    | [c], turn =>
      show ∀ s H0 C cl fp, ST (X.blk s H0 scope (compEnvC scope cl C X.env) fp) c _ H'' _
      intro s H0 C cl fp
      refine TX.go (turn s H0 C cl fp) en2.blk (.quiet s3.at2) fun k F4 m4 H4 s4 _ r => ?_
      cases k with
      | true =>
        rw [if_pos rfl]
        exact elt s4.st (en2.mono s4.ex) fun s H0 C cl fp => r.1 rfl s H0 C cl fp
      | false =>
        rw [if_neg Bool.false_ne_true]
        obtain ⟨b1, b2, b3⟩ := Step.stay s4.st a2 a3 a1
        exact ⟨o, xs, ks, vs, F4, m4, (s'.trans s3).trans s4, b1, hob, dx.mono (s3.ex.trans s4.ex), r.2 rfl, b2, b3⟩
    | _ :: _ :: _, turn => exact absurd hl1 (by simp)
  · exact fin p o xs ks vs F1 m1 H1 F' m' H' st hp s' hF' hk' hl hob dx (done ks vs m' hI)
/-- {k: v for y in it if ..} -/
theorem x_dc {ifs : List Expr} {b : Bool} (hu : X.A.units + 64 < cLine) (hj : SlotAt ρ j y) (h : IX X (.Name y py) it ρ m (CompD X scope ifs kx vx y j ρ fun ks ds m' => RNew R m' ks ds b)) (hl1 : ifs.length ≤ 1 := by decide) (hok : blkC X.N X.env.scope scope [(y, j)] = true := by kernel_rfl)
    (hx : ∀ cl C, Loc (compEnvC scope cl C X.env).scope y := by intro _ _; first | exact Or.inl rfl | exact Or.inr rfl) (hf : ∀ cl C, (scope.names.lookup y == some .cell) = true ∨ (compEnvC scope cl C X.env).scope.names.lookup y = some .local := by intro _ _; first | exact .inl rfl | exact .inr rfl)
    (hc : X.calm = true := by rfl) (hs : ∀ x, foldedSetIterable it X.env x = pure x := by intro _; rfl) : EX X (.DictComp kx vx [⟨.Name y py, it, ifs, 0⟩] scope pos) ρ m R := .mk fun F σ H en at_ =>
  SE.of (pe_dcI (own := [(y, j)]) hc (by omega) en.nd (pi_SI (it := it)) (blkOk_by hok) (fun s H0 C cl fp => pg_name (X := X.blk s H0 scope (compEnvC scope cl C X.env) fp) (i := j) en.nd (by show X.N[j]? = some y; rw [← en.nm]; exact hj.ix) (hx cl C) (hf cl C)) (fun s H0 C cl fp => pts_STs s H0 C cl fp) (fun s H0 C cl fp => pe_SEb s H0 C cl fp) (fun s H0 C cl fp => pe_SEb s H0 C cl fp) hs)
    (dc_read hl1 en at_ _ _ h (fun p o xs ks ds F1 m1 H1 F' m' H' st hp s' hF hk hl hob dx r => by
      cases b with
      | false =>
        have s2 := s'.take hp hF hk hl
        exact ⟨_, _, m', st.trans s2, (dx.mono (Ex.new hF)).den upd_same hob, r⟩
      | true => exact ⟨_, F', _, st.trans (s'.takeM hp hF hk hl (mo := .dI ks ds) (dx.mden hob)), .ref p, r p⟩))
end
end DL


namespace DL
open PySem PySem.Spec PySem.Calls PyProof.Rows L2 RZ

/-! ### dict(d) -/
theorem call_dictH {prog : Program} {w : World} {A : Around} {E : Value → Shared → Prop} {s : Shared} {o : Addr} {more : List (List Int × Addr × Value)} {Q : Value → Shared → Prop} (hu : A.units + 2 < cLine) (hoS : (o == sysModules) = false) (ho : s.heap.DictOfH (kI prog w) o more) (hsz : more.length ≤ sizeLine)
    (hty : ∀ x ∈ more, s.TypeIs (.ref x.2.1) "tuple") (hap : (more.map fun x => hI x.1).Nodup)
    (h : ∀ h', h'.DictOfH (kI prog w) s.heap.objs.size more → Heap.SameBut s.heap.objs.size (s.heap.push { cls := .type "dict", data := .dict #[] }) h' → Q (.ref s.heap.objs.size) { s with heap := h' }) : wpAny (model prog w) A (call (.type "dict") [.ref o]) Q E s := by
  refine callType_codes (Q₁ := fun obj s₁ => obj = .ref s.heap.objs.size ∧ s₁ = { s with heap := s.heap.push eD }) PySem.F.kt_called_dict (PySem.F.kt_typeCall_dict_1 _) PySem.F.entry_dict_init (kt_code_dict_new _ ⟨rfl, rfl⟩) ?_
  rintro obj s₁ ⟨rfl, rfl⟩
  have hnew : (s.heap.push eD).DictOfH (kI prog w) s.heap.objs.size [] := Heap.DictOfH.new s.heap
  have ho' : (s.heap.push eD).DictOfH (kI prog w) o more := by
    obtain ⟨_, _, _, _, _, _, _, his, _⟩ := id ho
    exact ho.at' (fun _ e => Heap.get?_push_of_some _ e) fun y hy => tupleKind_stays.stays (fun b q _ _ e _ => Heap.get?_push_of_some _ e) (his y hy)
  have hdo : s.heap.objs.size ≠ o := Nat.ne_of_gt ho.lt_size
  have hT : Shared.TypeIs { s with heap := s.heap.push eD } (.ref s.heap.objs.size) "dict" := ⟨_, Heap.get?_push_size _ rfl, rfl⟩
  refine ⟨hT, PySem.F.args_dict_init_2 _ _, ?_⟩
  unfold Builtin.«dict.__init__»
  refine wpAny_bind ?_
  unfold Builtin.Dict.selfAndRest
  refine wpAny_bind (wpAny_notOrdered_dict hT (wpAny_pure ?_))
  refine updateFrom_dictH (A := A.in1) (knd := kI prog w) (kvs := []) .none (by show A.units + 1 + 1 < cLine; omega) hdo hoS hnew ho' (.inr ⟨fun x hx => ?_, hap⟩) (by simpa using hsz) fun h' hd' _ hs' => ?_
  · obtain ⟨q, hq, hc⟩ := hty x hx
    exact ⟨q, Heap.get?_push_of_some _ hq, hc⟩
  · rw [storedAllH_nil_of_nodup more ho.nodup] at hd'
    exact ⟨rfl, h h' hd' hs'⟩
section
variable {X : CD} {m : Led} {R : D → Led → Prop} {d : D} {ks : List (List Int)} {ds : List D} {b : Bool}
/-- a dict's entries over the frozen part -/
theorem DicV.readF {K : Frag} {F H : Hp} {v : V} (h : DicV m d ks ds) (a : At K F m H) (q : Den K F v d) : ∃ p o xs, v = .ref p ∧ H p = some (objO p o) ∧ DictObj p o xs ∧ DicX K F xs ks ds := by
  rcases h with rfl | ⟨i, p, rfl, hi⟩
  · cases q with
    | dI h ho hk ht hv hs => exact ⟨_, _, _, rfl, a.sub _ _ h, ho, ⟨_, hk, ht, hv, hs⟩⟩
  · cases q
    obtain ⟨hh, ⟨o, xs, vs, rfl, ho, hk, ht, hv, hs⟩, e⟩ := a.get hi
    exact ⟨p, o, xs, rfl, e, ho, ⟨_, hk, ht, hv, hs⟩⟩
theorem b_dictD (hu : X.A.units + 64 < cLine) (h : DicV m d ks ds) (hh : (ks.map hI).Nodup) (k : RNew R m ks ds b) : BX X (.type "dict") [d] m R := .mk fun F σ H xs pins s us qs at_ I rs => by
  obtain ⟨v, rfl, q⟩ := qs.one
  obtain ⟨u, rfl, rx⟩ := vals1 rs
  obtain ⟨p, o, xs, rfl, e1, dobj, dx⟩ := h.readF at_.toAt q
  cases rx
  obtain ⟨vs, f1, f2, f3, f4⟩ := dx.ex
  have ht : ∀ x ∈ xs, SqT X.K H x.2.1 (x.1.map V.int) := fun x hx => at_.toAt.sub.sqT (f2 x hx)
  refine call_dictH (by omega) dobj.sys (dictI I e1 dobj ht) dobj.len (fun x hx => ?_) (by rw [← f1, List.map_map] at hh; exact hh) fun h' hd hs => ?_
  · obtain ⟨its, r, ⟨ot, g1, g2, _⟩, _⟩ := I.tuple (ht x hx)
    exact ⟨ot, g1, g2⟩
  · have hsys : (s.heap.objs.size == sysModules) = false := beq_eq_false_iff_ne.mpr (Nat.ne_of_gt I.big)
    obtain ⟨o', ho', dobj'⟩ := dictObj_of hd dobj.len hsys
    exact ⟨.ref s.heap.objs.size, upd H s.heap.objs.size (objO s.heap.objs.size o'), I.laid (t' := s.toks) (fun b u e => (hs.2 b (Nat.ne_of_lt (Heap.lt_size e))).trans (Heap.get?_push_of_some _ e)) (Nat.le_refl _) (objO_ok ho'), rfl, new_dict at_.toAt (I.hok.fresh (Nat.le_refl _)) dx dobj' k⟩
/-! list(d) -/
def RNewL (R : D → Led → Prop) (m : Led) (ds : List D) : Bool → Prop
  | false => R (.lst ds) m
  | true => ∀ p, R (.ref p) (m ++ [(p, .lst ds)])
theorem new_lstB {K : Frag} {F H : Hp} {p : Addr} {xs : List V} {ds : List D} {b : Bool} (at_ : At K F m H) (hp : H p = none) (hs : Dens K F xs ds) (k : RNewL R m ds b) : PQ K F m H R (.ref p) (upd H p (.lst xs)) := by
  cases b with
  | false => exact new_lst at_ hp hs k
  | true => exact new_lstM at_ hp hs k
theorem b_listD (hc : X.calm = true) (h : DicV m d ks ds) (k : RNewL R m (ks.map keyD) b) : BX X (.type "list") [d] m R := .mk fun F σ H xs pins s us qs at_ I rs => by
  obtain ⟨v, rfl, q⟩ := qs.one
  obtain ⟨u, rfl, rx⟩ := vals1 rs
  obtain ⟨p, o, xs, rfl, e1, dobj, dx⟩ := h.readF at_.toAt q
  cases rx
  obtain ⟨vs, rfl, f2, f3, f4⟩ := dx.ex
  obtain ⟨ep, hdt⟩ := dobj.dat
  refine PySem.W.kdl_call (kdl_raw dobj.sys dobj.ex hdt) (I.ok.hd hc) (objO_get I.hok e1) (by simp; exact dobj.len) fun h' tk acc' c' kp e it => ?_
  have ea : acc'.toList = (xs.map fun x => x.2.1).map Value.ref := by
    have hl : acc'.toList.length = xs.length := by rw [Array.length_toList, it.1]; simp
    apply List.ext_getElem?
    intro j
    rw [List.getElem?_map, List.getElem?_map]
    cases hj : acc'.toList[j]? with
    | none =>
      have h1 := List.getElem?_eq_none_iff.mp hj
      rw [List.getElem?_eq_none (by omega)]
      rfl
    | some v =>
      obtain ⟨en, hen, hv⟩ := it.2 j v (by rw [← Array.getElem?_toList]; exact hj)
      have hen' : (xs.map entI)[j]? = some en := by simpa using hen
      rw [List.getElem?_map] at hen'
      cases hb : xs[j]? with
      | none => rw [hb] at hen'; cases hen'
      | some y =>
        rw [hb] at hen'
        obtain rfl : entI y = en := Option.some.inj hen'
        rw [hv]
        rfl
  have rv : Vals (xs.map fun y => V.ref y.2.1) acc'.toList := by
    rw [ea]
    have := vals_refs (xs.map fun x => x.2.1)
    rwa [List.map_map] at this
  refine ⟨.ref s.heap.objs.size, _, I.laid (t' := tk) (o := .lst (xs.map fun y => V.ref y.2.1)) kp (Nat.le_refl _) ?_, rfl, new_lstB at_.toAt (I.hok.fresh (Nat.le_refl _)) (keys_dens f2) k⟩
  exact ⟨by rw [List.length_map]; exact dobj.len, acc'.toList, c', rv, by rw [Array.toArray_toList]; exact e⟩
end
end DL


namespace DL
open PySem PySem.Spec PySem.Calls PyProof.Rows L2 RZ

/-! ### a dict of the ledger read as a frozen one for a while -/
mutual
def noD : D → Bool
  | .lst xs => noDs xs
  | .tup xs => noDs xs
  | .lsk xs => noDs xs
  | .dI _ _ => false
  | .dK _ vs => noDs vs
  | .dO _ _ _ _ => false
  | .obj _ _ vs => noDs vs
  | .exc _ _ _ x => noD x
  | _ => true
def noDs : List D → Bool
  | [] => true
  | x :: xs => noD x && noDs xs
end
def noDM : MO → Bool
  | .lst ds => noDs ds
  | .ins _ _ _ ds => noDs ds
  | .own _ => true
  | .dI _ ds => noDs ds
  | .dK _ ds => noDs ds
  | .dO _ _ _ _ => false
def noDL (m : Led) : Prop := ∀ p ∈ m, noDM p.2 = true
def cut (F : Hp) (a : Addr) : Hp := fun b => if b = a then none else F b
/-- the other part is the same but for things told by their object -/
def Nx (F F' : Hp) : Prop := ∀ b o, F b = some o → (∀ φ, o ≠ .ext φ) → F' b = some o
section
variable {K : Frag} {F F' : Hp}
theorem Nx.rd {a : Addr} {u : HO} (n : Nx F F') (hu : ∀ φ, u ≠ .ext φ) (h : Rd F a u) : Rd F' a u := by
  rcases h with h | ⟨o, h⟩
  · exact .inl (n a _ h hu)
  · exact .inr ⟨o, n a _ h (fun _ z => nomatch z)⟩
theorem Nx.sqT {a : Addr} {xs : List V} (n : Nx F F') (h : SqT K F a xs) : SqT K F' a xs := h.elim (fun h => .inl (n.rd (fun _ z => nomatch z) h)) .inr
theorem Nx.sqL {a : Addr} {xs : List V} (n : Nx F F') (h : SqL K F a xs) : SqL K F' a xs := h.elim (fun h => .inl (n.rd (fun _ z => nomatch z) h)) .inr
theorem Nx.lst {a : Addr} {xs : List V} (n : Nx F F') (h : Rd F a (.lst xs)) : Rd F' a (.lst xs) := n.rd (fun _ z => nomatch z) h
theorem Nx.dK {a : Addr} {xs : List (Key × V)} (n : Nx F F') (h : Rd F a (.dK xs)) : Rd F' a (.dK xs) := n.rd (fun _ z => nomatch z) h
theorem Nx.ins {a C dx : Addr} {fs : List (Str × V)} (n : Nx F F') (h : F a = some (.ins C dx fs)) : F' a = some (.ins C dx fs) := n _ _ h (fun _ z => nomatch z)
theorem Nx.xd {a : Addr} {fs : List (Str × V)} (n : Nx F F') (h : F a = some (.xd fs)) : F' a = some (.xd fs) := n _ _ h (fun _ z => nomatch z)
theorem noD_dI {ks : List (List Int)} {ds : List D} {P : Prop} (h : noD (.dI ks ds) = true) : P := by simp [noD] at h
theorem noD_dO {ks : List (List Int)} {ds : List D} {k v : D} {P : Prop} (h : noD (.dO ks ds k v) = true) : P := by simp [noD] at h
theorem noD_lst {ds : List D} (h : noD (.lst ds) = true) : noDs ds = true := by simpa only [noD] using h
theorem noD_tup {ds : List D} (h : noD (.tup ds) = true) : noDs ds = true := by simpa only [noD] using h
theorem noD_lsk {ds : List D} (h : noD (.lsk ds) = true) : noDs ds = true := by simpa only [noD] using h
theorem noD_dK {ks : List Key} {ds : List D} (h : noD (.dK ks ds) = true) : noDs ds = true := by simpa only [noD] using h
theorem noD_obj {n : Str} {ks : List Str} {ds : List D} (h : noD (.obj n ks ds) = true) : noDs ds = true := by simpa only [noD] using h
theorem noD_exc {a b : Addr} {n : Str} {d : D} (h : noD (.exc a b n d) = true) : noD d = true := by simpa only [noD] using h
theorem noDs_cons {d : D} {ds : List D} (h : noDs (d :: ds) = true) : noD d = true ∧ noDs ds = true := by simpa only [noDs, Bool.and_eq_true] using h
mutual
theorem Den.nx (n : Nx F F') : ∀ {v : V} {d : D}, Den K F v d → noD d = true → Den K F' v d
  | _, _, .non, _ => .non
  | _, _, .bl b, _ => .bl b
  | _, _, .int i, _ => .int i
  | _, _, .str x, _ => .str x
  | _, _, .ty t, _ => .ty t
  | _, _, .lst h hs, e => .lst (n.lst h) (Dens.nx n hs (noD_lst e))
  | _, _, .tup h hs, e => .tup (n.sqT h) (Dens.nx n hs (noD_tup e))
  | _, _, .lsk h hs, e => .lsk (n.sqL h) (Dens.nx n hs (noD_lsk e))
  | _, _, .dI h ho hk ht hv hs, e => noD_dI e
  | _, _, .dK h hk hs, e => .dK (n.dK h) hk (Dens.nx n hs (noD_dK e))
  | _, _, .obj h hn hk hs, e => .obj (n.ins h) hn hk (Dens.nx n hs (noD_obj e))
  | _, _, .ref a, _ => .ref a
  | _, _, .exc h q, e => .exc (n.xd h) (Den.nx n q (noD_exc e))
  | _, _, .cls h, _ => .cls h
  | _, _, .dO .., e => noD_dO e
theorem Dens.nx (n : Nx F F') : ∀ {vs : List V} {ds : List D}, Dens K F vs ds → noDs ds = true → Dens K F' vs ds
  | _, _, .nil, _ => .nil
  | _, _, .cons h hs, e => .cons (Den.nx n h (noDs_cons e).1) (Dens.nx n hs (noDs_cons e).2)
end
theorem MDen.nx {a : Addr} (n : Nx F F') : ∀ {o : MO} {h : HO}, MDen K F a o h → noDM o = true → MDen K F' a o h
  | .lst _, _, ⟨xs, q, hs⟩, e => ⟨xs, q, hs.nx n e⟩
  | .ins .., _, ⟨C, fs, q, nm, k, hs⟩, e => ⟨C, fs, q, nm, k, hs.nx n e⟩
  | .own _, _, q, _ => q
  | .dI .., _, ⟨o, xs, vs, q, d, k, t, v, hs⟩, e => ⟨o, xs, vs, q, d, k, fun x hx => n.sqT (t x hx), v, hs.nx n e⟩
  | .dK .., _, ⟨fs, q, k, hs⟩, e => ⟨fs, q, k, hs.nx n e⟩
  | .dO .., _, _, e => by simp [noDM] at e
theorem cut_nx {F : Hp} {a : Addr} {φ : Heap → Prop} (h : F a = some (.ext φ)) : Nx F (cut F a) := fun b o e ne => by
  have : b ≠ a := fun z => by subst z; rw [h] at e; exact ne φ (Option.some.inj e).symm
  unfold cut
  rw [if_neg this]
  exact e
variable {H : Hp} {m : Led}
/-- anything of the ledger frozen -/
theorem Step.frz {i : Nat} {p : Addr} {o : MO} (a : At K F m H) (h : m[i]? = some (p, o)) : ∃ hh, MDen K F p o hh ∧ F p = none ∧ H p = some hh ∧ Step K F m H (upd F p hh) (m.eraseIdx i) H := by
  obtain ⟨hh, md, e⟩ := a.get h
  have hin : (p, o) ∈ m := List.mem_of_getElem? h
  have hF : F p = none := a.dis _ hin
  have sl : (m.eraseIdx i).Sublist m := List.eraseIdx_sublist ..
  refine ⟨hh, md, hF, e, ⟨⟨fun x u q => ?_, fun q hq => ?_, fun q hq => ?_, a.nod.sublist (sl.map _)⟩, Ex.new hF, fun _ _ e _ => e, fun x u q n => ?_, fun x hx => .inl ((sl.map _).subset hx)⟩⟩
  · by_cases hx : x = p
    · subst hx; rw [upd_same] at q; cases q; exact e
    · rw [upd_ne hx] at q; exact a.sub x u q
  · obtain ⟨hh, e1, e2⟩ := a.led q (sl.subset hq)
    exact ⟨hh, e1.mono (Ex.new hF), e2⟩
  · have : q.1 ≠ p := fun z => by
      obtain ⟨j, hj⟩ := List.mem_iff_getElem?.mp hq
      have k2 : (keys m)[i]? = some p := by rw [List.getElem?_map, h]; rfl
      rw [List.getElem?_eraseIdx] at hj
      split at hj
      · have k1 : (keys m)[j]? = some p := by rw [List.getElem?_map, hj]; exact congrArg some z
        have := nd_ix a.nod k2 k1
        omega
      · have k1 : (keys m)[j + 1]? = some p := by rw [List.getElem?_map, hj]; exact congrArg some z
        have := nd_ix a.nod k2 k1
        omega
    rw [upd_ne this]; exact a.dis q (sl.subset hq)
  · by_cases hx : x = p
    · subst hx; exact .inr (List.mem_map.mpr ⟨_, hin, rfl⟩)
    · rw [upd_ne hx, n] at q; cases q
theorem Step.freezeD {i : Nat} {p : Addr} {ks : List (List Int)} {ds : List D} (a : At K F m H) (h : m[i]? = some (p, .dI ks ds)) : ∃ F2, Step K F m H F2 (m.eraseIdx i) H ∧ Den K F2 (.ref p) (.dI ks ds) := by
  obtain ⟨hh, ⟨o, xs, vs, rfl, h1, h2, h3, h4, h5⟩, hF, e, st⟩ := Step.frz a h
  exact ⟨_, st, .dI upd_same h1 h2 (fun x hx => st.ex.sqT (h3 x hx)) h4 (h5.mono st.ex)⟩
theorem Step.thaw {i : Nat} {p : Addr} {ks : List (List Int)} {ds : List D} {o : Obj} {F2 H2 : Hp} {m2 : Led} (a : At K F m H) (h : m[i]? = some (p, .dI ks ds)) (md : MDen K F p (.dI ks ds) (objO p o)) (s : Step K (upd F p (objO p o)) (m.eraseIdx i) H F2 m2 H2) (nd : noDL m2) :
    Step K F m H (cut F2 p) (m2 ++ [(p, .dI ks ds)]) H2 := by
  have hin : (p, MO.dI ks ds) ∈ m := List.mem_of_getElem? h
  have hF : F p = none := a.dis _ hin
  have hF2 : F2 p = some (objO p o) := s.ex p _ upd_same
  have nx := cut_nx hF2
  have sl : (m.eraseIdx i).Sublist m := List.eraseIdx_sublist ..
  have ex : Ex F (cut F2 p) := fun b u e => by
    have ne : b ≠ p := ne_of_none e hF
    unfold cut
    rw [if_neg ne]
    exact s.ex b u (by rw [upd_ne ne]; exact e)
  have pk : p ∉ keys m2 := fun z => by
    obtain ⟨q, hq, e⟩ := List.mem_map.mp z
    have := s.at2.dis q hq
    rw [e, hF2] at this
    cases this
  refine ⟨⟨fun b u e => ?_, fun q hq => ?_, fun q hq => ?_, ?_⟩, ex, fun b u e n => s.keep b u e fun z => n ((sl.map _).subset z), fun b u e n => ?_, fun b hb => ?_⟩
  · unfold cut at e
    split at e
    · cases e
    · exact s.at2.sub b u e
  · rcases List.mem_append.mp hq with hq | hq
    · obtain ⟨hh, e1, e2⟩ := s.at2.led q hq
      exact ⟨hh, e1.nx nx (nd q hq), e2⟩
    · obtain rfl : q = (p, .dI ks ds) := by simpa using hq
      exact ⟨_, md.mono ex, s.at2.sub _ _ hF2⟩
  · rcases List.mem_append.mp hq with hq | hq
    · have := s.at2.dis q hq
      unfold cut
      split
      · rfl
      · exact this
    · obtain rfl : q = (p, .dI ks ds) := by simpa using hq
      exact if_pos rfl
  · show (List.map (·.1) (m2 ++ [(p, MO.dI ks ds)])).Nodup
    rw [List.map_append]
    refine List.nodup_append.mpr ⟨s.at2.nod, by simp, fun x hx y hy => ?_⟩
    obtain rfl : y = p := by simpa using hy
    exact fun z => pk (z ▸ hx)
  · unfold cut at e
    split at e
    · cases e
    · rename_i ne
      exact (s.frF b u e (by rw [upd_ne ne]; exact n)).imp id fun z => (sl.map _).subset z
  · have hb' : b ∈ List.map (·.1) (m2 ++ [(p, MO.dI ks ds)]) := hb
    rw [List.map_append] at hb'
    rcases List.mem_append.mp hb' with q | q
    · exact (s.frM b q).imp (fun z => (sl.map _).subset z) id
    · obtain rfl : b = p := by simpa using q
      exact .inl (List.mem_map.mpr ⟨_, hin, rfl⟩)
end
section
variable {X : CD} {e : Expr} {ρ ρ' : Rn} {m : Led} {R : D → Led → Prop} {x : Str} {i n : Nat} {p : Addr} {ks : List (List Int)} {ds : List D}
theorem look_same {F : Hp} {σ : L2.St} {d : D} (en : Env X F σ ρ) (hl : LookAt ρ i x (.ref p)) (hs : SetAt ρ i x d ρ') (q : Den X.K F (.ref p) d) : Env X F σ ρ' := by
  have en2 := en.set hs q
  obtain ⟨hN, v, e1, q1⟩ := en.look hl
  cases q1
  have e : σ.set i (some (.ref p)) = σ := by
    apply List.ext_getElem?
    intro j
    by_cases hj : i = j
    · subst hj
      rw [List.getElem?_set_self (List.getElem?_eq_some_iff.mp e1).1, e1]
    · rw [List.getElem?_set_ne hj]
  rwa [e] at en2
theorem x_thaw (hm : m[n]? = some (p, .dI ks ds)) (hl : LookAt ρ i x (.ref p)) (hs : SetAt ρ i x (.dI ks ds) ρ') (h : EX X e ρ' (m.eraseIdx n) fun d m2 => noD d = true ∧ noDL m2 ∧ R d (m2 ++ [(p, .dI ks ds)])) : EX X e ρ m R := .mk fun F σ H en at_ => by
  obtain ⟨hh, md, hF, e, st⟩ := Step.frz at_.toAt hm
  obtain ⟨o, xs, vs, rfl, h1, h2, h3, h4, h5⟩ := id md
  have q : Den X.K (upd F p (objO p o)) (.ref p) (.dI ks ds) := .dI upd_same h1 h2 (fun x hx => st.ex.sqT (h3 x hx)) h4 (h5.mono st.ex)
  refine (h.run _ σ H (look_same (en.mono st.ex) hl hs q) (at_.to st)).mono fun v H2 ⟨d, F2, m2, s2, qd, nd, ndl, r⟩ => ?_
  have hF2 : F2 p = some (objO p o) := s2.ex p _ upd_same
  exact ⟨d, _, _, Step.thaw at_.toAt hm md s2 ndl, qd.nx (cut_nx hF2) nd, r⟩
end
end DL


namespace DL
open PySem PySem.Spec PySem.Calls PyProof.Rows L2 RZ

/-! ### instances -/
abbrev CnIs (K : Frag) (cn : Str) (C : Addr) : Prop := PySem.W.nsIn K mainGlobals cn = some (some (.ref C))
theorem CnIs.inj {K : Frag} {cn : Str} {C C' : Addr} (h : CnIs K cn C) (h' : CnIs K cn C') : C = C' := by
  have := h.symm.trans h'
  cases this
  rfl
/-- a known def runs, at any around -/
theorem run_X {X : CD} {A' : Around} {f : Addr} {fd : FuncData} {ps : List Str} {k : Nat} {sp : SpX} {pins : List (Addr × Obj)} {σ : L2.St} {F H : Hp} {s : Shared} {m : Led} {ρ : Rn} {R : D → Led → Prop} {E : Str → Option (Str × D) → Led → Prop} {us : List Value} {vs : List V} {ds : List D}
    (FO : FnOk X.prog X.w X.K X.mg X.base (L2.CX X.prog X.w) k f fd ps (liftX X.K X.mg sp)) (hr : Room k A') (e0 : Env0 X.prog X.w X.K X.mg X.base A' X.stack s H) (hb : Binds X.K fd ps []) (I : Inv X pins σ H s) (r : Vals vs us) (q : Dens X.K F vs ds) (at_ : AtX X F m H) (en : Env X F σ ρ)
    (xa : ∀ nm fd m2, E nm fd m2 → X.xq nm fd ρ m2) (h : sp ds m R E) : wpAny (model X.prog X.w) A' (call (.ref f) us) (EP X pins σ (PQ X.K F m H R)) X.xe s := by
  have hs : liftX X.K X.mg sp vs H (PQ X.K F m H R) (WE (WD X.toCx F m H X.xq) σ) := ⟨F, m, ds, R, E, q, at_.toAt, h, fun d m3 v F3 H3 rd st3 qd3 => ⟨d, F3, m3, st3, qd3, rd⟩, fun nm C fd' F3 m3 H3 d xr hC st3 fdd => ⟨nm, C, fd', ρ, F3, m3, hC, rfl, st3, en.mono st3.ex, fdd, xa _ _ _ xr⟩⟩
  have hl : us.length = ps.length := by rw [← r.length]; exact FO.len _ _ _ _ hs
  have hb' : BindsTo s fd ⟨us, []⟩ (ps.zip us) := by simpa using hb s us I.kIn (by simpa using hl)
  refine wpAny_call (codeAny_mono (FO.run A' X.stack s H ⟨us, []⟩ us vs _ _ hr e0 hb' r hs) fun r s' hq => ?_)
  match r with
  | .error er => exact passAt at_.tk σ pins H s er s' I hq
  | .ok (.ret u) => exact I.after hq
  | .ok .next => exact False.elim hq
  | .ok .brk => exact False.elim hq
  | .ok .cont => exact False.elim hq
structure KnowsC (P : Program) (w : World) (K : Frag) (mg : Str → Option Value) (base : Heap) (k : Nat) (cn : Str) (n : Nat) (sp : SpX) : Prop where
  fn : ∃ C f fd ps, FnOk P w K mg base (L2.CX P w) k f fd ps (liftX K mg sp) ∧ mg cn = some (.ref C) ∧ CnIs K cn C ∧ Mk K C f ∧ Binds K fd ps [] ∧ ps.length = n + 1
structure KnowsM (P : Program) (w : World) (K : Frag) (mg : Str → Option Value) (base : Heap) (k : Nat) (cn mt : Str) (n : Nat) (sp : SpX) : Prop where
  fn : ∃ C f fd ps, FnOk P w K mg base (L2.CX P w) k f fd ps (liftX K mg sp) ∧ CnIs K cn C ∧ Cls K C ∧ Meth K C mt f ∧ Binds K fd ps [] ∧ ps.length = n + 1
structure AttF (K : Frag) (cn f : Str) : Prop where
  ex : ∃ C, CnIs K cn C ∧ Cls K C ∧ NoAttr K C f
theorem KnowsC.mono {P : Program} {w : World} {K : Frag} {mg : Str → Option Value} {base : Heap} {k j : Nat} {cn : Str} {n : Nat} {sp : SpX} (G : KnowsC P w K mg base k cn n sp) (h : k ≤ j) : KnowsC P w K mg base j cn n sp := by
  obtain ⟨C, f, fd, ps, FO, r⟩ := G.fn
  exact ⟨C, f, fd, ps, FO.mono h, r⟩
theorem KnowsM.mono {P : Program} {w : World} {K : Frag} {mg : Str → Option Value} {base : Heap} {k j : Nat} {cn mt : Str} {n : Nat} {sp : SpX} (G : KnowsM P w K mg base k cn mt n sp) (h : k ≤ j) : KnowsM P w K mg base j cn mt n sp := by
  obtain ⟨C, f, fd, ps, FO, r⟩ := G.fn
  exact ⟨C, f, fd, ps, FO.mono h, r⟩
/-- what C(..) asks: __init__ on a new instance, which is frozen then -/
def makeM (cn : Str) (sp : SpX) (ds : List D) (m : Led) (R : D → Led → Prop) (E : Str → Option (Str × D) → Led → Prop) : Prop := ∀ x dx, sp (.ref x :: ds) (m ++ [(dx, .own x), (x, .ins cn dx [] [])])
  (fun d m2 => d = .non ∧ ∃ ns vs, m2[m.length + 1]? = some (x, .ins cn dx ns vs) ∧ R (.obj cn ns vs) (m2.take m.length)) fun nm fd m2 => E nm fd (m2.take m.length)
section
variable {X : CD} {o e : Expr} {es : List Expr} {ρ : Rn} {m : Led} {R : D → Led → Prop} {E : Str → Option (Str × D) → Led → Prop} {cn mt f : Str} {p pos apos : Pos} {k n : Nat} {sp : SpX}
theorem take_sub (m2 : Led) (j : Nat) : (m2.take j).Sublist (m2.eraseIdx (j + 1)) := by
  have : m2.take j = (m2.eraseIdx (j + 1)).take j := by
    apply List.ext_getElem?
    intro i
    rw [List.getElem?_take, List.getElem?_take]
    by_cases h : i < j
    · rw [if_pos h, if_pos h, List.getElem?_eraseIdx, if_pos (by omega)]
    · rw [if_neg h, if_neg h]
  rw [this]
  exact List.take_sublist _ _
theorem make_go {F H : Hp} {σ : L2.St} {pins : List (Addr × Obj)} {s : Shared} {us : List Value} {vs : List V} {ds : List D} (G : KnowsC X.prog X.w X.K X.mg X.base k cn n sp) (hr : Room (k + 1) X.A) (xa : ∀ nm fd m2, E nm fd m2 → X.xq nm fd ρ m2) (h : makeM cn sp ds m R E) (I : Inv X pins σ H s) (r : Vals vs us) (q : Dens X.K F vs ds) (at_ : AtX X F m H) (en : Env X F σ ρ) :
    ∀ C, X.mg cn = some (.ref C) → wpAny (model X.prog X.w) X.A (call (.ref C) us) (EP X pins σ (PQ X.K F m H R)) X.xe s := by
  intro C hC
  obtain ⟨C', f, fd, ps, FO, hm, hcn, M, hb, hl⟩ := G.fn
  have ec := hC.symm.trans hm
  cases ec
  generalize ex : s.heap.objs.size + 1 = x
  generalize edx : s.heap.objs.size = dx
  have hx : H x = none := I.hok.fresh (by omega)
  have hdx : H dx = none := I.hok.fresh (by omega)
  have ne : x ≠ dx := by omega
  have I2 : Inv X pins σ (upd (upd H dx (.own x)) x (.ins C dx [])) { s with heap := (s.heap.push PySem.W.emptyDict).push (PySem.W.instObj C s.heap.objs.size) } := by
    subst ex edx
    exact Inv.made I
  have s1 := Step.newM (o := .own x) (mo := .own x) at_.toAt hdx rfl
  have hx1 : upd H dx (.own x) x = none := by rw [upd_ne ne]; exact hx
  have s2 := Step.newM (o := .ins C dx []) (mo := .ins cn dx [] []) s1.at2 hx1 ⟨C, [], rfl, hcn, rfl, .nil⟩
  have s12 := s1.trans s2
  have e1 : m ++ [(dx, MO.own x)] ++ [(x, MO.ins cn dx [] [])] = m ++ [(dx, .own x), (x, .ins cn dx [] [])] := by simp
  rw [e1] at s12
  have hs : liftX X.K X.mg sp (.ref x :: vs) (upd (upd H dx (.own x)) x (.ins C dx [])) (fun v H2 => v = .non ∧ PQ X.K F m H R (.ref x) H2) (WE (WD X.toCx F m H X.xq) σ) := by
    refine ⟨F, _, .ref x :: ds, _, _, .cons (.ref x) q, s12.at2, h x dx, fun d m3 v F3 H3 ⟨ed, ns, zs, hi, rr⟩ st3 qd3 => ⟨by subst ed; exact qd3.non_inv, ?_⟩, fun nm C fd' F3 m3 H3 d xr hC st3 fdd => ⟨nm, C, fd', ρ, F3, _, hC, rfl, (s12.trans st3).trans (Step.drop st3.at2 (List.take_sublist _ _)), en.mono st3.ex, fdd, xa _ _ _ xr⟩⟩
    obtain ⟨hh, ⟨C', fs, rfl, hn, hk, hd⟩, hF, e, st⟩ := Step.frz st3.at2 hi
    have s4 := (s12.trans st3).trans (st.trans (Step.drop st.at2 (take_sub _ _)))
    exact ⟨_, _, _, s4, .obj upd_same hn hk (hd.mono st.ex), rr⟩
  have r2 : Vals (V.ref x :: vs) (Value.ref x :: us) := .cons rfl r
  have hl2 : (Value.ref x :: us).length = ps.length := by rw [← r2.length]; exact FO.len _ _ _ _ hs
  have hb' : BindsTo { s with heap := (s.heap.push PySem.W.emptyDict).push (PySem.W.instObj C s.heap.objs.size) } fd ⟨Value.ref x :: us, []⟩ (ps.zip (Value.ref x :: us)) := by simpa using hb _ (Value.ref x :: us) I2.kIn (by simpa using hl2)
  refine wpAny_call (make_map (f := f) I.kIn M.makes M.init (beq_iff_eq.mp M.fn) ?_)
  rw [ex]
  refine codeAny_mono (FO.run _ X.stack _ _ ⟨Value.ref x :: us, []⟩ (Value.ref x :: us) _ _ _ (hr.make C us []) (I2.env0.make C us []) hb' r2 hs) fun r s' hq' => ?_
  match r with
  | .error er => exact passAt at_.tk σ pins _ _ er s' I2 hq'
  | .ok (.ret u) =>
    obtain ⟨v, H', I3, rv, ev, q3⟩ := I2.after hq'
    subst ev
    exact ⟨rv, ⟨V.ref x, H', I3, rfl, q3⟩⟩
  | .ok .next => exact False.elim hq'
  | .ok .brk => exact False.elim hq'
  | .ok .cont => exact False.elim hq'
end
end DL


namespace DL
open PySem PySem.Spec PySem.Calls PyProof.Rows L2 RZ

def lookF : List Str → List D → Str → Option D
  | n :: ns, v :: vs, f => if n = f then some v else lookF ns vs f
  | _, _, _ => none
def putN : List Str → Str → List Str
  | [], f => [f]
  | n :: ns, f => if n = f then n :: ns else n :: putN ns f
def putV : List Str → List D → Str → D → List D
  | n :: ns, v :: vs, f, d => if n = f then d :: vs else v :: putV ns vs f d
  | _, _, _, d => [d]
theorem lookF_at {K : Frag} {F : Hp} {f : Str} {d : D} : ∀ {fs : List (Str × V)} {vs : List D}, Dens K F (fs.map (·.2)) vs → lookF (fs.map (·.1)) vs f = some d → ∃ v, fs.lookup f = some v ∧ Den K F v d
  | [], _, _, h => by simp [lookF] at h
  | (n, u) :: fs, _, .cons q qs, h => by
    simp only [List.map_cons, lookF] at h
    by_cases e : n = f
    · subst e
      rw [if_pos rfl] at h
      cases h
      exact ⟨u, by simp [List.lookup_cons], q⟩
    · rw [if_neg e] at h
      obtain ⟨v, h1, h2⟩ := lookF_at qs h
      exact ⟨v, by rw [List.lookup_cons, show (f == n) = false from beq_false_of_ne (Ne.symm e)]; exact h1, h2⟩
theorem look_none {f : Str} : ∀ {fs : List (Str × V)}, f ∉ fs.map (·.1) → fs.lookup f = none
  | [], _ => rfl
  | (n, u) :: fs, h => by
    have h1 : f ≠ n := fun e => h (by simp [e])
    rw [List.lookup_cons, show (f == n) = false from beq_false_of_ne h1]
    exact look_none fun z => h (by simp at z ⊢; exact .inr z)
theorem putF_names {f : Str} {y : V} : ∀ {fs : List (Str × V)}, (putF f y fs).map (·.1) = putN (fs.map (·.1)) f
  | [] => rfl
  | (n, u) :: fs => by
    simp only [putF, List.map_cons, putN]
    by_cases e : n = f
    · rw [if_pos e, if_pos e]; rfl
    · rw [if_neg e, if_neg e, List.map_cons, putF_names]
theorem putF_dens {K : Frag} {F : Hp} {f : Str} {y : V} {d : D} (q : Den K F y d) : ∀ {fs : List (Str × V)} {vs : List D}, Dens K F (fs.map (·.2)) vs → Dens K F ((putF f y fs).map (·.2)) (putV (fs.map (·.1)) vs f d)
  | [], _, .nil => .cons q .nil
  | (n, u) :: fs, _, .cons q1 qs => by
    simp only [putF, List.map_cons, putV]
    by_cases e : n = f
    · rw [if_pos e, if_pos e]; exact .cons q qs
    · rw [if_neg e, if_neg e]; exact .cons q1 (putF_dens q qs)
def ObjV (m : Led) (d : D) (cn : Str) (ns : List Str) (vs : List D) : Prop := d = .obj cn ns vs ∨ ∃ (n : Nat) (a dx : Addr), d = .ref a ∧ m[n]? = some (a, .ins cn dx ns vs)
theorem ObjV.read {K : Frag} {F H : Hp} {m : Led} {d : D} {cn : Str} {ns : List Str} {vs : List D} {v : V} (h : ObjV m d cn ns vs) (at_ : At K F m H) (q : Den K F v d) : ∃ a C dx fs, v = .ref a ∧ H a = some (.ins C dx fs) ∧ CnIs K cn C ∧ fs.map (·.1) = ns ∧ Dens K F (fs.map (·.2)) vs := by
  rcases h with rfl | ⟨n, a, dx, rfl, hi⟩
  · cases q with
    | obj h hn hk hs => exact ⟨_, _, _, _, rfl, at_.sub _ _ h, hn, hk, hs⟩
  · cases q
    obtain ⟨hh, ⟨C, fs, rfl, hn, hk, hs⟩, e⟩ := at_.get hi
    exact ⟨_, _, _, _, rfl, e, hn, hk, hs⟩
section
variable {X : CD} {o e : Expr} {es : List Expr} {ρ : Rn} {m : Led} {R : D → Led → Prop} {E : Str → Option (Str × D) → Led → Prop} {cn mt f : Str} {p pos apos pos' : Pos} {k n : Nat} {sp : SpX}
theorem x_make (G : KnowsC X.prog X.w X.K X.mg X.base k cn n sp) (hr : Room (k + 1) X.A) (xa : ∀ nm fd m2, E nm fd m2 → X.xq nm fd ρ m2) (h : AX X (e :: es) ρ m fun ds m1 => makeM cn sp ds m1 R E) (hg : Gl X cn)
    (hdb : (cn == ("__debug__" : Str)) = false) (he : starEach (e :: es) X.env = (false, eval e X.env) :: starEach es X.env) (hpl : (backTo pos (starEach es X.env)).any (·.1) = false) : EX X (.Call (.Name cn p) (e :: es) [] pos) ρ m R := .mk fun F σ H en at_ => by
  intro pins s I
  obtain ⟨C, f, fd, ps, FO, hm, hcn, M, hb, hl⟩ := G.fn
  refine wpAny_Call_Name_kw (ld_glob I hg hm ?_ hdb)
  refine PySem.W.callWith_K (h₀ := X.base) I.ok.mod.kin M.kp (thn (h.run F σ H en at_ pos pins s I) fun us s1 ⟨vs, H1, I1, r, ds, F1, m1, st, q, hh⟩ => ⟨I1.kIn, ?_⟩) he hpl
  exact thn (make_go G hr xa hh I1 r q (at_.to st) (en.mono st.ex) C hm) fun w s3 ⟨v3, H3, I3, r3, k⟩ => ⟨v3, H3, I3, r3, PQ.step st k⟩
theorem x_att (A : AttF X.K cn f) (h : EX X o ρ m fun d m1 => ∃ ns vs v, ObjV m1 d cn ns vs ∧ lookF ns vs f = some v ∧ R v m1) (hb : attributeBase o f X.env (eval o X.env) = eval o X.env) : EX X (.Attribute o f pos) ρ m R := .mk fun F σ H en at_ =>
  SE.of (pe_fld (pe_SE (e := o)) hb) (h.go en at_ fun v d F1 m1 H1 s1 en1 q ⟨ns, vs, w, hv, hl, r⟩ => by
    obtain ⟨C', hC', c, na⟩ := A.ex
    obtain ⟨a, C, dx, fs, rfl, e1, hn, rfl, hs⟩ := hv.read s1.at2.toAt q
    obtain rfl := hn.inj hC'
    obtain ⟨u, hu, qu⟩ := lookF_at hs hl
    exact ⟨a, C, dx, fs, u, rfl, e1, c, na, hu, ⟨w, F1, m1, s1.st, qu, r⟩⟩)
/-- self.f = e -/
theorem s_fld {Ed : EndsD} (A : AttF X.K cn f) (h : EX X e ρ m fun d m1 => EX X o ρ m1 fun d2 m2 => ∃ (n : Nat) (a dx : Addr) (ns : List Str) (vs : List D), d2 = .ref a ∧ m2[n]? = some (a, .ins cn dx ns vs) ∧ ns.length < 1000 ∧ Ed.nx ρ (m2.set n (a, .ins cn dx (putN ns f) (putV ns vs f d))))
    (hs : swapsWith e (some (.Attribute o f pos')) pos.line X.env = pure false) : S1 X (.Assign [.Attribute o f pos'] e pos) ρ m Ed := .mk fun F σ H en at_ =>
  SS.of (ps_fld (pe_SE (e := o)) (pe_SE (e := e)) hs) (h.go en at_ fun v d F1 m1 H1 s1 en1 q r => r.go en1 s1.at2 fun v2 d2 F2 m2 H2 s2 en2 q2 ⟨n, a, dx, ns, vs, ed, hi, hl, kk⟩ => by
    subst ed
    cases q2
    obtain ⟨C', hC', c, na⟩ := A.ex
    obtain ⟨hh, ⟨C, fs, rfl, hn, rfl, hd⟩, e1⟩ := s2.at2.toAt.get hi
    obtain rfl := CnIs.inj hn hC'
    refine ⟨a, C, dx, fs, rfl, e1, c, na, by simpa using hl, ?_⟩
    exact ⟨ρ, F2, _, (s1.trans s2.st).trans (Step.write (o' := .ins cn dx (putN (fs.map (·.1)) f) (putV (fs.map (·.1)) vs f d)) s2.at2.toAt hi ⟨C, _, rfl, hn, putF_names, putF_dens (q.mono s2.ex) hd⟩), en2, kk⟩)
/-- o.m(e, ..) -/
theorem x_meth {pl : Sem Bool} (G : KnowsM X.prog X.w X.K X.mg X.base k cn mt n sp) (hr : Room k X.A) (xa : ∀ nm fd m2, E nm fd m2 → X.xq nm fd ρ m2) (h : EX X o ρ m fun d m1 => ∃ ns vs, ObjV m1 d cn ns vs ∧ mt ∉ ns ∧ AX X (e :: es) ρ m1 fun ds m2 => sp (d :: ds) m2 R E)
    (hst : starEach (e :: es) X.env = (false, eval e X.env) :: starEach es X.env) (hpl : (backTo pos (starEach es X.env)).any (·.1) = false)
    (ht : eval (.Call (.Attribute o mt apos) (e :: es) [] pos) X.env = (do
      let ov ← eval o X.env
      standAt apos.atName
      let (f, first) ← holding [ov] (getMethod ov mt pl)
      callWith pos f first (backTo pos (starEach (e :: es) X.env)) (backToKw pos (keywordEach [] X.env)))) : EX X (.Call (.Attribute o mt apos) (e :: es) [] pos) ρ m R := .mk fun F σ H en at_ => by
  intro pins s I
  obtain ⟨C', f, fd, ps, FO, hcn, c, M, hb, hl⟩ := G.fn
  refine PySem.W.methodCall_KW (pl := pl) (thn (h.run F σ H en at_ pins s I) fun u s1 ⟨x, H1, I1, rx, d, F1, m1, st, q, ns, vs, hv, hmt, hh⟩ => ?_) ht
  obtain ⟨a, C, dx, fs, rfl, e1, hn, rfl, hs⟩ := hv.read st.at2 q
  obtain rfl := hn.inj hcn
  obtain rfl : u = Value.ref a := rx
  refine getmeth_ok I1 e1 c M (look_none hmt) ?_
  refine PySem.W.callWith_K (first := [.ref a]) (h₀ := X.base) I.ok.mod.kin M.kp (thn (hh.run F1 σ H1 (en.mono st.ex) (at_.to st) pos pins s1 I1) fun us s2 ⟨zs, H2, I2, r, ds, F2, m2, st2, q2, k⟩ => ⟨I2.kIn, ?_⟩) hst hpl
  have st12 := st.trans st2
  exact thn (run_X FO hr I2.env0 hb I2 (vs := .ref a :: zs) (us := .ref a :: us) (.cons rfl r) (.cons (q.mono st2.ex) q2) (at_.to st12) (en.mono st12.ex) xa k) fun w s3 ⟨v3, H3, I3, r3, k⟩ => ⟨v3, H3, I3, r3, PQ.step st12 k⟩
theorem x_meth0 {pl : Sem Bool} (G : KnowsM X.prog X.w X.K X.mg X.base k cn mt n sp) (hr : Room k X.A) (xa : ∀ nm fd m2, E nm fd m2 → X.xq nm fd ρ m2) (h : EX X o ρ m fun d m1 => ∃ ns vs, ObjV m1 d cn ns vs ∧ mt ∉ ns ∧ sp [d] m1 R E)
    (ht : eval (.Call (.Attribute o mt apos) [] [] pos) X.env = (do
      let ov ← eval o X.env
      standAt apos.atName
      let (f, first) ← holding [ov] (getMethod ov mt pl)
      callWith pos f first (backTo pos (starEach [] X.env)) (backToKw pos (keywordEach [] X.env)))) : EX X (.Call (.Attribute o mt apos) [] [] pos) ρ m R := .mk fun F σ H en at_ => by
  intro pins s I
  obtain ⟨C', f, fd, ps, FO, hcn, c, M, hb, hl⟩ := G.fn
  refine PySem.W.methodCall_KW (pl := pl) (thn (h.run F σ H en at_ pins s I) fun u s1 ⟨x, H1, I1, rx, d, F1, m1, st, q, ns, vs, hv, hmt, hh⟩ => ?_) ht
  obtain ⟨a, C, dx, fs, rfl, e1, hn, rfl, hs⟩ := hv.read st.at2 q
  obtain rfl := hn.inj hcn
  obtain rfl : u = Value.ref a := rx
  refine getmeth_ok I1 e1 c M (look_none hmt) ?_
  refine PySem.W.callWith_K0 (first := [.ref a]) I1.kIn M.kp ?_
  exact thn (run_X FO hr I1.env0 hb I1 (vs := [.ref a]) (us := [.ref a]) (.cons rfl .nil) (.cons q .nil) (at_.to st) (en.mono st.ex) xa hh) fun w s3 ⟨v3, H3, I3, r3, k⟩ => ⟨v3, H3, I3, r3, PQ.step st k⟩
end
end DL


namespace DL
open PySem PySem.Spec PySem.Calls PyProof.Rows L2 RZ

/-! ### subscripts with the caller's slots known: own __getitem__ may raise -/
structure IxE (X : CD) (d1 d2 : D) (ρ : Rn) (m : Led) (R : D → Led → Prop) : Prop where
  run : ∀ value slice F σ H x y pins s v u, Env X F σ ρ → Den X.K F x d1 → Den X.K F y d2 → AtX X F m H → Inv X pins σ H s → RelV x v → RelV y u →
  (∀ o i, subscripted slice false o i = operate [o, i] (getItem o i)) → (∀ o i, subscripted slice true o i = runValue (.builtin "lifetime.subscript" ⟨[o, i], []⟩)) → wpAny (model X.prog X.w) X.A (subscriptTail value slice v u) (EP X pins σ (PQ X.K F m H R)) X.xe s
section
variable {X : CD} {a b e : Expr} {ρ : Rn} {m : Led} {R : D → Led → Prop} {E : Str → Option (Str × D) → Led → Prop} {cn mt f : Str} {pos : Pos} {k n : Nat} {sp : SpX} {d d1 d2 : D}
theorem IxX.toE (h : IxX X d1 d2 m R) : IxE X d1 d2 ρ m R := .mk fun value slice F σ H x y pins s v u en q1 q2 at_ I rx ry hs _ => h.run value slice F σ H x y pins s v u q1 q2 at_ I rx ry (hs _ _)
theorem IxE.mono {R' : D → Led → Prop} (h : IxE X d1 d2 ρ m R) (kk : ∀ d m, R d m → R' d m) : IxE X d1 d2 ρ m R' := .mk fun value slice F σ H x y pins s v u en q1 q2 at_ I rx ry hs h2 => thn (h.run value slice F σ H x y pins s v u en q1 q2 at_ I rx ry hs h2) fun w s3 ⟨v3, H3, I3, r3, d, F3, m3, st, q, k⟩ => ⟨v3, H3, I3, r3, d, F3, m3, st, q, kk _ _ k⟩
theorem x_ixE (h : EX X a ρ m fun d1 m1 => EX X b ρ m1 fun d2 m2 => IxE X d1 d2 ρ m2 R) (hs : ∀ o i, subscripted b false o i = operate [o, i] (getItem o i)) (h2 : ∀ o i, subscripted b true o i = runValue (.builtin "lifetime.subscript" ⟨[o, i], []⟩)) : EX X (.Subscript a b pos) ρ m R := .mk fun F σ H en at_ => by
  intro pins s I
  refine Subscript_ (binT (R := fun x y H2 => ∃ d1 d2 F2 m2, Step X.K F m H F2 m2 H2 ∧ Den X.K F2 x d1 ∧ Den X.K F2 y d2 ∧ IxE X d1 d2 ρ m2 R) (pe_SE (e := a)) (pe_SE (e := b)) I ?_ ?_)
  · exact h.go en at_ fun v d F1 m1 H1 s1 en1 q1 r1 => r1.go en1 s1.at2 fun v2 d2 F2 m2 H2 s2 en2 q2 r2 => ⟨d, d2, F2, m2, s1.trans s2, q1.mono s2.ex, q2, r2⟩
  · intro v u s2 x y H2 I2 rx ry ⟨d1, d2, F2, m2, st, q1, q2, r⟩
    exact thn (r.run a b F2 σ H2 x y pins s2 v u (en.mono st.ex) q1 q2 (at_.to st) I2 rx ry hs h2) fun w s3 ⟨v3, H3, I3, r3, k⟩ => ⟨v3, H3, I3, r3, PQ.step st k⟩
theorem inst_at {pins : List (Addr × Obj)} {σ : L2.St} {H : Hp} {s : Shared} {x C dx : Addr} {fs : List (Str × V)} (I : Inv X pins σ H s) (h : H x = some (.ins C dx fs)) : ∃ ox od, PySem.W.InstAt s.heap x ox C (some od) := by
  obtain ⟨mA, O, _⟩ := ins_get I.hok h
  obtain ⟨od, J, _⟩ := O.look
  exact ⟨_, _, J⟩
theorem i_own {ns : List Str} {vs : List D} (G : KnowsM X.prog X.w X.K X.mg X.base k cn "__getitem__" n sp) (hfn : ∀ C f, CnIs X.K cn C → PySem.W.findIn X.K (.ref C) "__getitem__" = some (some (.ref f)) → PySem.W.fnIn X.K f = true) (hr : Room (k + 1) X.A) (xa : ∀ nm fd m2, E nm fd m2 → X.xq nm fd ρ m2) (h : ObjV m d1 cn ns vs) (hh : sp [d1, d2] m R E) : IxE X d1 d2 ρ m R := .mk fun value slice F σ H x y pins s v u en q1 q2 at_ I rx ry hs h2 => by
  obtain ⟨C', f, fd, ps, FO, hcn, c, M, hb, hl⟩ := G.fn
  obtain ⟨p, C, dx, fs, rfl, e1, hn, rfl, hd⟩ := h.read at_.toAt q1
  obtain rfl := hn.inj hcn
  cases rx
  obtain ⟨ox, od, J⟩ := inst_at I e1
  obtain ⟨mF, hF⟩ := I.fr
  refine PySem.W.sub_K hF I.ok.mod.kin J M.at_ (hfn C f hcn M.at_) M.fn ?_ (h2 _ _)
  exact run_X FO hr.in1 I.env0.in1 hb I (vs := [.ref p, y]) (us := [.ref p, u]) (.cons rfl (.cons ry .nil)) (.cons q1 (.cons q2 .nil)) at_ en xa hh
/-! ### isinstance, any kind of data -/
inductive KindD (m : Led) : D → String → Prop
  | plain {d : D} {t : String} : tyD d = some t → KindD m d t
  | led {i : Nat} {a : Addr} {ds : List D} : m[i]? = some (a, .lst ds) → KindD m (.ref a) "list"
  | dic {d : D} {ks : List (List Int)} {ds : List D} : DicV m d ks ds → KindD m d "dict"
  | dicK {ks : List Key} {ds : List D} : KindD m (.dK ks ds) "dict"
/-- own classes: no built-in one -/
structure ObjK (K : Frag) (cn : Str) : Prop where
  ex : ∃ C, CnIs K cn C ∧ Cls K C ∧ PySem.W.findIn K (.ref C) "__class__" = some (some (.builtin "object.__class__")) ∧ PySem.W.specialIn K (.builtin "object.__class__") "__get__" = some (some (.builtin "getset_descriptor.__get__")) ∧ PySem.W.takesIn K (.builtin "object.__class__") = some true ∧ PySem.W.mroIn K C (.type "object") = some true ∧
    (∀ n ∈ ["int", "bool", "list", "tuple", "dict", "str"], PySem.W.kitOne K (.ref C) (.type n) = some false) ∧ PySem.W.kitOne K (.ref C) (.ref C) = some true ∧ ∀ t ∈ ["NoneType", "bool", "int", "str", "list", "tuple", "dict"], PySem.W.kitOne K (.type t) (.ref C) = some false
/-- what a value is, for isinstance: a built-in kind, or an instance of an own class -/
inductive KindV (K : Frag) (m : Led) (d : D) (t : Value) : Prop
  | kind {n : String} : KindD m d n → t = .type n → KindV K m d t
  | own {cn : Str} {C : Addr} {ns : List Str} {vs : List D} : ObjK K cn → CnIs K cn C → ObjV m d cn ns vs → t = .ref C → KindV K m d t
theorem KindV.kit {pins : List (Addr × Obj)} {σ : L2.St} {F H : Hp} {s : Shared} {v : V} {u t : Value} (h : KindV X.K m d t) (I : Inv X pins σ H s) (at_ : At X.K F m H) (q : Den X.K F v d) (r : RelV v u) : ∃ P : Heap → Prop, PySem.W.KitX X.K u t P ∧ P s.heap ∧ u ≠ .builtin "__main__.__loader__#opaque" := by
  cases h with
  | kind h et =>
    subst et
    cases h with
    | plain h => exact kit_of I r (q.tyx at_ h)
    | led h =>
      cases q
      obtain ⟨hh, ⟨xs, rfl, hs⟩, e2⟩ := at_.get h
      exact kit_of I r (.base (.lst e2))
    | dic h =>
      obtain ⟨p, o, xs, rfl, e1, dobj, dx⟩ := h.readF at_ q
      cases r
      exact ⟨_, PySem.W.kitx_dict, ⟨o, objO_get I.hok e1, dobj.ex.1⟩, fun z => nomatch z⟩
    | dicK =>
      cases q with
      | dK h hk hs =>
        rcases at_.sub.rd h with h | ⟨o, h⟩
        · exact kit_of I r (.base (.dK h))
        · exact kit_of I r (.fDict h)
  | own hk hc hv et =>
    subst et
    obtain ⟨C', hC', c, h1, h2, h3, h4, _⟩ := hk.ex
    obtain ⟨p, C2, dx, fs, rfl, e1, hn, rfl, hd⟩ := hv.read at_ q
    obtain rfl := hn.inj hc
    obtain rfl := hn.inj hC'
    cases r
    obtain ⟨ox, od, J⟩ := inst_at I e1
    exact ⟨_, PySem.W.kitx_own (c.get _) c.hd h1 h2 h3 h4, J, fun z => nomatch z⟩
theorem b_isiV {t : Value} {nn : String} {c : Bool} (h : KindV X.K m d t) (hk : PySem.W.kitOne X.K t (.type nn) = some c) (kk : R (.bl c) m) : BX X (.builtin "isinstance") [d, .ty nn] m R := .mk fun F σ H xs pins s us qs at_ I rs => by
  obtain ⟨v, w, rfl, q, q2⟩ := qs.two
  obtain ⟨u, u2, rfl, rx, ry⟩ := vals2 rs
  cases q2
  cases ry
  obtain ⟨P, Z, pp, hx⟩ := h.kit I at_.toAt q rx
  exact PySem.W.kia_one Z I.kIn pp hk hx fun tk => ⟨.bl c, H, I.tok tk, rfl, PQ.now at_.toAt (.bl _) kk⟩
theorem b_isiC {t : Value} {cn : Str} {C : Addr} {c : Bool} (h : KindV X.K m d t) (hC : CnIs X.K cn C) (hk : PySem.W.kitOne X.K t (.ref C) = some c) (kk : R (.bl c) m) : BX X (.builtin "isinstance") [d, .cls cn] m R := .mk fun F σ H xs pins s us qs at_ I rs => by
  obtain ⟨v, w, rfl, q, q2⟩ := qs.two
  obtain ⟨u, u2, rfl, rx, ry⟩ := vals2 rs
  cases q2 with
  | cls hn =>
    cases ry
    obtain rfl := CnIs.inj hn hC
    obtain ⟨P, Z, pp, hx⟩ := h.kit I at_.toAt q rx
    exact PySem.W.kia_one Z I.kIn pp hk hx fun tk => ⟨.bl c, H, I.tok tk, rfl, PQ.now at_.toAt (.bl _) kk⟩
theorem tys_dens {K : Frag} {F : Hp} : ∀ {ts : List String} {xs : List V}, Dens K F xs (ts.map D.ty) → xs = ts.map V.ty
  | [], _, .nil => rfl
  | t :: ts, _, .cons (.ty _) r => by rw [tys_dens r]; rfl
theorem tys_vals : ∀ {ts : List String} {us : List Value}, Vals (ts.map V.ty) us → us = ts.map Value.type
  | [], _, .nil => rfl
  | t :: ts, _, .cons r rs => by rw [tys_vals rs]; cases (show _ = Value.type t from r); rfl
theorem b_isiVT {t : Value} {ts : List String} {c : Bool} (h : KindV X.K m d t) (hk : PySem.W.kitAny X.K t (ts.map Value.type) = some c) (kk : R (.bl c) m) : BX X (.builtin "isinstance") [d, .tup (ts.map D.ty)] m R := .mk fun F σ H xs pins s us qs at_ I rs => by
  obtain ⟨v, w, rfl, q, q2⟩ := qs.two
  obtain ⟨u, u2, rfl, rx, ry⟩ := vals2 rs
  obtain ⟨tp, ys, rfl, e1, s1⟩ := tup_read at_.toAt q2
  have ey := tys_dens s1
  subst ey
  cases ry
  obtain ⟨P, Z, pp, hx⟩ := h.kit I at_.toAt q rx
  obtain ⟨its, rv, ⟨o, h1, h2, n, h3⟩, _⟩ := I.tuple e1
  have e3 := tys_vals rv
  subst e3
  obtain ⟨oc, od, dt, sl⟩ := o
  simp only at h2 h3
  subst h2 h3
  exact PySem.W.kia_tup Z I.kIn pp h1 hk hx fun tk => ⟨.bl c, H, I.tok tk, rfl, PQ.now at_.toAt (.bl _) kk⟩
end
end DL


namespace DL
open PySem PySem.Spec PySem.Calls PyProof.Rows L2 RZ

/-! ### sorted, of tuples of ints of any lengths -/
def lexI : List Int → List Int → Bool
  | [], [] => false
  | [], _ :: _ => true
  | _ :: _, [] => false
  | a :: as, b :: bs => if a = b then lexI as bs else decide (a < b)
theorem lexI_asym : ∀ {a b : List Int}, lexI a b = true → lexI b a = false
  | [], [], h => by simp [lexI] at h
  | [], _ :: _, _ => rfl
  | _ :: _, [], h => by simp [lexI] at h
  | x :: a, y :: b, h => by
    simp only [lexI] at h ⊢
    by_cases e : x = y
    · rw [if_pos e] at h; rw [if_pos e.symm]; exact lexI_asym h
    · rw [if_neg e] at h; rw [if_neg (Ne.symm e)]
      have := of_decide_eq_true h
      exact decide_eq_false (by omega)
theorem lexI_tr : ∀ {a b c : List Int}, lexI a b = false → lexI b c = false → lexI a c = false
  | [], [], c, _, h => h
  | [], _ :: _, _, h, _ => by simp [lexI] at h
  | _ :: _, [], [], _, _ => rfl
  | _ :: _, [], _ :: _, _, h => by simp [lexI] at h
  | _ :: _, _ :: _, [], _, _ => rfl
  | x :: a, y :: b, z :: c, h1, h2 => by
    simp only [lexI] at h1 h2 ⊢
    by_cases e1 : x = y
    · subst e1
      rw [if_pos rfl] at h1
      by_cases e2 : x = z
      · rw [if_pos e2] at h2 ⊢; exact lexI_tr h1 h2
      · rw [if_neg e2] at h2 ⊢; exact h2
    · rw [if_neg e1] at h1
      have h1 := of_decide_eq_false h1
      by_cases e2 : y = z
      · subst e2
        rw [if_neg e1]
        exact decide_eq_false h1
      · rw [if_neg e2] at h2
        have h2 := of_decide_eq_false h2
        rw [if_neg (by omega)]
        exact decide_eq_false (by omega)
theorem lexI_eq : ∀ {a b : List Int}, lexI a b = false → lexI b a = false → a = b
  | [], [], _, _ => rfl
  | [], _ :: _, h, _ => by simp [lexI] at h
  | _ :: _, [], _, h => by simp [lexI] at h
  | x :: a, y :: b, h1, h2 => by
    simp only [lexI] at h1 h2
    by_cases e : x = y
    · subst e
      rw [if_pos rfl] at h1 h2
      rw [lexI_eq h1 h2]
    · rw [if_neg e] at h1
      rw [if_neg (Ne.symm e)] at h2
      have := of_decide_eq_false h1
      have := of_decide_eq_false h2
      omega
theorem swo_I (k : Value → List Int) : SrtO.Swo fun v u => lexI (k v) (k u) := ⟨fun x y h => lexI_asym h, fun x y z h1 h2 => lexI_tr h2 h1⟩
/-- the library's reading of < by places, against ours -/
theorem lexAt_I : ∀ (a b : List Int) (e r : Nat → Bool) (i : Nat), (∀ j, j < a.length → j < b.length → e (i + j) = decide (a[j]? = b[j]?)) → (∀ j x y, a[j]? = some x → b[j]? = some y → e (i + j) = false → r (i + j) = decide (x < y)) →
    Ob.lexAt e r (decide (a.length < b.length)) i (min a.length b.length) = lexI a b
  | [], [], e, r, i, _, _ => by simp [Ob.lexAt, lexI]
  | [], _ :: _, e, r, i, _, _ => by simp [Ob.lexAt, lexI]
  | _ :: _, [], e, r, i, _, _ => by simp [Ob.lexAt, lexI]
  | x :: a, y :: b, e, r, i, he, hr => by
    have e0 := he 0 (by simp) (by simp)
    have r0 := hr 0 x y rfl rfl
    rw [Nat.add_zero] at e0 r0
    have ih := lexAt_I a b e r (i + 1) (fun j h1 h2 => by
      have := he (j + 1) (by simpa using h1) (by simpa using h2)
      rw [show i + 1 + j = i + (j + 1) by omega, this]
      simp) (fun j u v h1 h2 h3 => by
      rw [show i + 1 + j = i + (j + 1) by omega] at h3 ⊢
      exact hr (j + 1) u v (by simpa using h1) (by simpa using h2) h3)
    have hm : min (x :: a).length (y :: b).length = min a.length b.length + 1 := by simp only [List.length_cons]; omega
    have hd : decide ((x :: a).length < (y :: b).length) = decide (a.length < b.length) := by simp
    rw [hm, hd, Ob.lexAt_succ]
    simp only [lexI]
    by_cases ex : x = y
    · rw [if_pos ex, if_pos (by rw [e0]; simp [ex])]
      exact ih
    · have ef : e i = false := by rw [e0]; simp [ex]
      rw [if_neg ex, ef, if_neg Bool.false_ne_true]
      exact r0 ef
section
variable {prog : Program} {w : World} {A : Around} {E : Value → Shared → Prop} {s : Shared}
open TS
theorem intsAt {vs : List Value} {ns : List Int} (h : IntsAre vs ns) : ∀ (j : Nat) (hj : j < vs.length), ∃ n t, vs[j] = Value.int n t ∧ ns[j]? = some n := by
  induction h with
  | nil => intro j hj; simp at hj
  | cons n t r ih =>
    intro j hj
    cases j with
    | zero => exact ⟨n, t, rfl, rfl⟩
    | succ j =>
      obtain ⟨m, u, e1, e2⟩ := ih j (by simpa using hj)
      exact ⟨m, u, by simpa using e1, by simpa using e2⟩
/-- t < u as list.sort asks it where all are of one type -/
theorem oneLt_tups {x y : Value} {a b : List Int} {Q : Bool → Shared → Prop} (hu : A.units + 2 < cLine) (hx : TupInts s.heap x a) (hy : TupInts s.heap y b) (h : Q (lexI a b) s) : wpAny (model prog w) A (oneLt' true x y) Q E s := by
  obtain ⟨p, xs, rfl, ⟨⟨oc, od, data, sl⟩, ho, hc, n, hd⟩, hi⟩ := hx
  obtain ⟨q, ys, rfl, ⟨⟨oc2, od2, data2, sl2⟩, ho2, hc2, n2, hd2⟩, hi2⟩ := hy
  simp only at hc hd hc2 hd2
  subst hc hd hc2 hd2
  have l1 : xs.size = a.length := by rw [← hi.length]; simp
  have l2 : ys.size = b.length := by rw [← hi2.length]; simp
  rw [oneLt'_eq]
  simp only [if_true]
  refine wpAny_bind (wpAny_cRoomFor (by omega) ?_)
  refine wpAny_bind (wpAny_callSpecialIfBound?_slot (T := "tuple") ⟨_, ho, rfl⟩ PySem.F.slot_tuple_lt (call_meets PySem.F.slot_tuple_lt ⟨_, ho, rfl⟩ PySem.F.entry_tuple_lt (PySem.F.args_tuple_lt_2 _ _) (Ob.tuple_ltAt p q xs ys n n2 od od2 sl sl2 (fun j => decide (a[j]? = b[j]?)) (fun j => decide (a[j]?.getD 0 < b[j]?.getD 0))) ?_))
  refine ⟨ho, ho2, fun j h1 h2 => ?_, fun j h1 h2 he => ?_, ?_⟩
  · obtain ⟨i1, t1, e1, g1⟩ := intsAt hi j (by simpa using h1)
    obtain ⟨i2, t2, e2, g2⟩ := intsAt hi2 j (by simpa using h2)
    have e1 : xs[j] = .int i1 t1 := by simpa using e1
    have e2 : ys[j] = .int i2 t2 := by simpa using e2
    rw [e1, e2]
    have e3 : decide (a[j]? = b[j]?) = (i1 == i2) := by rw [g1, g2]; by_cases h : i1 = i2 <;> simp [h]
    rw [e3]
    exact SeqAt.EqAt.int_int (A := A.in1) (s := s) i1 t1 i2 t2
  · obtain ⟨i1, t1, e1, g1⟩ := intsAt hi j (by simpa using h1)
    obtain ⟨i2, t2, e2, g2⟩ := intsAt hi2 j (by simpa using h2)
    have e1 : xs[j] = .int i1 t1 := by simpa using e1
    have e2 : ys[j] = .int i2 t2 := by simpa using e2
    rw [e1, e2]
    have := Ob.RcOp.lt_int (A := A.in1) (s := s) i1 i2 t1 t2
    simpa [g1, g2] using this
  · rw [l1, l2, lexAt_I a b _ _ 0 (fun j _ _ => by simp) (fun j u v h1 h2 _ => by simp [h1, h2])]
    exact wpAny_truthy_bool h
/-- t < u where all are tuples that are not empty -/
theorem kat_I {b : Bool} {Q : Bool → Shared → Prop} : ∀ (xs ys : List Value) (a c : List Int) (i : Nat), IntsAre xs a → IntsAre ys c → Q (lexI a c) s → PySem.W.KatLex prog w A b (decide (xs.length < ys.length)) Q (xs.zip ys) i s
  | [], [], _, _, i, .nil, .nil, h => by rw [show decide (([] : List Value).length < ([] : List Value).length) = false from rfl]; exact PySem.W.kat_nil h
  | [], _ :: _, _, _, i, .nil, .cons _ _ _, h => by
    refine PySem.W.kat_nil ?_
    simpa [lexI] using h
  | _ :: _, [], _, _, i, .cons _ _ _, .nil, h => by
    refine PySem.W.kat_nil ?_
    simpa [lexI] using h
  | _ :: xs, _ :: ys, _, _, i, .cons n t r, .cons m u q, h => by
    rw [show decide ((_ :: xs).length < (_ :: ys).length) = decide (xs.length < ys.length) from by simp]
    simp only [lexI] at h
    refine PySem.W.kat_cons (SeqAt.EqAt.int_int n t m u prog w _ _ ?_)
    refine PySem.W.kat_go (fun e1 => ?_) (fun e1 => ?_)
    · have ex : n = m := by simpa using e1
      rw [if_pos ex] at h
      exact PySem.W.kat_yes (kat_I xs ys _ _ (i + 1) r q h)
    · have ex : ¬ n = m := by simpa using e1
      rw [if_neg ex] at h
      refine PySem.W.kat_no ?_
      cases b && i == 0 with
      | true => exact oneLt_int h
      | false => exact PySem.W.kat_one _ _ (PyProof.Rows.lt_int h)
theorem firsts_opt : ∀ (vs : List Value) {Q : List (Option Value) → Shared → Prop}, (∀ v ∈ vs, ∃ ns, TupInts s.heap v ns) → (∀ fs : List (Option Value), fs.length = vs.length → (∀ (j : Nat) v, vs[j]? = some v → ∃ f, fs[j]? = some f ∧ (f.isSome = !(intsOf s.heap v).isEmpty) ∧ ∀ z, f = some z → ∃ n t, z = Value.int n t) → Q fs s) → wpAny (model prog w) A (vs.mapM firstOfTuple') Q E s
  | [], Q, _, h => by rw [List.mapM_nil]; exact wpAny_pure (h [] rfl fun j v e => by simp at e)
  | v :: vs, Q, hv, h => by
    obtain ⟨ns, t⟩ := hv v (by simp)
    obtain ⟨a, xs, rfl, ⟨o, ho, hc, n, hd⟩, hi⟩ := id t
    rw [List.mapM_cons]
    refine wpAny_bind ?_
    rw [PySem.W.kas_first_eq]
    refine wpAny_bind (PySem.W.Looks.here (show PySem.W.Looks (model prog w) s.heap (typeOf (.ref a)) o.cls from (PySem.W.Looks.ld ho).andThen .now) ?_)
    rw [hc, if_neg (by first | decide | simp)]
    refine wpAny_bind (listItems_at ho hd (wpAny_pure ?_))
    refine wpAny_bind (firsts_opt vs (Q := fun bs s' => wpAny (model prog w) A (pure (xs[0]? :: bs)) Q E s') (fun u hu => hv u (by simp [hu])) fun fs hl hf => wpAny_pure (h _ (by simp [hl]) fun j u hj => ?_))
    cases j with
    | zero =>
      obtain rfl : Value.ref a = u := by simpa using hj
      refine ⟨_, rfl, ?_, fun z hz => ?_⟩
      · rw [t.ints]
        have e : xs.toList.length = ns.length := hi.length
        cases ns with
        | nil =>
          have : xs.size = 0 := by simpa using e
          simp [this]
        | cons m r =>
          have : 0 < xs.size := by simp at e; omega
          simp [this]
      · have hz' : xs[0]? = some z := hz
        have h0 : 0 < xs.size := (Array.getElem?_eq_some_iff.mp hz').1
        obtain ⟨m, u, e1, _⟩ := intsAt hi 0 (by simpa using h0)
        refine ⟨m, u, ?_⟩
        have e2 : xs[0] = Value.int m u := by simpa using e1
        rw [Array.getElem?_eq_getElem h0] at hz'
        cases hz'
        exact e2
    | succ j =>
      obtain ⟨f, g1, g2⟩ := hf j u (by simpa using hj)
      exact ⟨f, by simpa using g1, g2⟩
/-- sorted's question of such a list: all of them not empty, or the first one empty -/
def SrtOk (ks : List (List Int)) : Prop := (∀ k ∈ ks, k ≠ []) ∨ ks[0]? = some []
theorem tups_sortable {h0 : Heap} {a : Addr} {vs : List Value} (hu : A.units + 4 < cLine) (h2 : 2 ≤ vs.length) (hp : ∀ v ∈ vs, TupInts s.heap v (intsOf h0 v)) (ha : ∀ o, s.heap.get? a = some o → o.cls ≠ .type "tuple") (hk : SrtOk (vs.map (intsOf h0))) : SrtO.SortableO prog w A s a vs fun v u => lexI (intsOf h0 v) (intsOf h0 u) := by
  intro h' keep
  have hp' : ∀ v ∈ vs, TupInts h' v (intsOf h0 v) := fun v hm => (hp v hm).keeps fun b o e c => keep b o (fun z => by subst z; exact ha o e c) e
  have he : ∀ v ∈ vs, intsOf h' v = intsOf h0 v := fun v hm => (hp' v hm).ints
  rcases hk with hk | hk
  · have hf : ∃ fs, PySem.W.KatTups h' vs fs ∧ fs.length = vs.length ∧ ∀ f ∈ fs, ∃ n t, f = Value.int n t := by
      have hne : ∀ v ∈ vs, intsOf h0 v ≠ [] := fun v hv => hk _ (List.mem_map.mpr ⟨v, hv, rfl⟩)
      clear hk h2 hp keep he
      induction vs with
      | nil => exact ⟨[], .nil, rfl, by simp⟩
      | cons v vs ih =>
        obtain ⟨fs, f1, f2, f3⟩ := ih (fun u hu => hp' u (by simp [hu])) fun u hu => hne u (by simp [hu])
        obtain ⟨b, xs, rfl, ⟨o, ho, hc, n, hd⟩, hi⟩ := hp' v (by simp)
        have hl : 0 < xs.toList.length := by
          rw [hi.length]
          have := hne _ (List.mem_cons_self (a := Value.ref b) (l := vs))
          exact List.length_pos_iff.mpr this
        obtain ⟨m, u, e1, _⟩ := intsAt hi 0 hl
        have h0' : 0 < xs.size := by simpa using hl
        have e2 : xs[0]? = some (Value.int m u) := by rw [Array.getElem?_eq_getElem h0']; simpa using e1
        exact ⟨_ :: fs, .cons ho hc hd e2 f1, by simp [f2], fun f hf => by
          rcases List.mem_cons.mp hf with rfl | hf
          · exact ⟨m, u, rfl⟩
          · exact f3 f hf⟩
    obtain ⟨fs, h1, h2', h3⟩ := hf
    refine ⟨tuples' true, fun Q E hq => ?_, fun p q hm hm' => ?_⟩
    · refine PySem.W.kat_kind (T := .type "int") h1 (by omega) (fun f hm => ?_) (by rfl) ?_
      · obtain ⟨x, t, rfl⟩ := h3 f hm
        exact PySem.W.Looks.now
      · have e : (Value.type "int" != Value.type "tuple") = true := by first | decide +kernel | rfl | decide
        rw [e]
        exact hq
    · obtain ⟨b, xs, eb, ⟨o, ho, hc, n, hd⟩, hi⟩ := hp' _ hm
      obtain ⟨c, ys, ec, ⟨o2, ho2, hc2, n2, hd2⟩, hi2⟩ := hp' _ hm'
      show wpAny (model prog w) A (keyLt' (tuples' true) p.1 q.1) (fun r s' => s' = { s with heap := h' } ∧ r = lexI (intsOf h0 p.1) (intsOf h0 q.1)) (fun _ _ => False) { s with heap := h' }
      rw [eb, ec] at *
      refine PySem.W.kat_lt ho hd ho2 hd2 ?_
      have := kat_I (prog := prog) (w := w) (A := A) (s := { s with heap := h' }) (b := true) (Q := fun r s' => s' = { s with heap := h' } ∧ r = lexI (intsOf h0 (.ref b)) (intsOf h0 (.ref c))) xs.toList ys.toList _ _ 0 hi hi2 ⟨rfl, rfl⟩
      simpa using this
  · refine ⟨oneType', fun Q E hq => ?_, fun p q hm hm' => ?_⟩
    · rw [keyKind'_eq, List.mapM_toArray, map_eq_pure_bind]
      refine wpAny_bind (wpAny_bind (firsts_opt (s := { s with heap := h' }) vs (fun v hv => ⟨_, hp' v hv⟩) fun fs hl hf => wpAny_pure ?_))
      obtain ⟨v0, vr, rfl⟩ : ∃ v0 vr, vs = v0 :: vr := by
        match vs, h2 with
        | v :: r, _ => exact ⟨v, r, rfl⟩
      have hk0 : intsOf h0 v0 = [] := by simpa using hk
      obtain ⟨f, g1, g2, _⟩ := hf 0 v0 rfl
      have g2 : f.isSome = false := by
        rw [g2, show intsOf h' v0 = [] from (he v0 (by simp)).trans hk0]
        rfl
      have f0 : f = none := by cases f with | none => rfl | some z => simp at g2
      subst f0
      have hall : (fs.toArray.all fun x => x.isSome) = false := by
        simp only [List.all_toArray]
        cases fs with
        | nil => simp at hl
        | cons y fs => simp at g1; subst g1; simp
      rw [hall, if_neg Bool.false_ne_true]
      have hz : ((fs.toArray[0]?.bind id).isSome) = false := by
        cases fs with
        | nil => simp at hl
        | cons y fs => simp at g1; subst g1; simp
      rw [hz, if_neg Bool.false_ne_true, oneTypeOnly'_eq, List.mapM_toArray, map_eq_pure_bind]
      refine wpAny_bind (wpAny_bind (wpAny_bind (PySem.W.kas_mapM (r := .type "tuple") _ (fun v hv Q' hq => ?_) (wpAny_pure ?_))))
      · obtain ⟨b, xs, rfl, ⟨o, ho, hc, n, hd⟩, hi⟩ := hp' v hv
        refine PySem.W.Looks.here (s := { s with heap := h' }) (show PySem.W.Looks (model prog w) h' (typeOf (.ref b)) o.cls from (PySem.W.Looks.ld ho).andThen .now) ?_
        rw [hc]
        exact hq
      · have h0' : (List.map (fun _ => Value.type "tuple") (v0 :: vr)).toArray[0]? = some (Value.type "tuple") := by simp
        rw [h0']
        have hall2 : ((List.map (fun _ => Value.type "tuple") (v0 :: vr)).toArray.all fun x => x == Value.type "tuple") = true := by
          simp only [List.all_toArray, List.all_map, List.all_eq_true]
          intro _ _
          rfl
        simp only [hall2, if_true]
        exact wpAny_pure (wpAny_pure hq)
    · show wpAny (model prog w) A (keyLt' oneType' p.1 q.1) (fun r s' => s' = { s with heap := h' } ∧ r = lexI (intsOf h0 p.1) (intsOf h0 q.1)) (fun _ _ => False) { s with heap := h' }
      rw [keyLt'_oneType]
      exact oneLt_tups (s := { s with heap := h' }) (by omega) (hp' _ hm) (hp' _ hm') ⟨rfl, rfl⟩
end
end DL


namespace DL
open PySem PySem.Spec PySem.Calls PyProof.Rows L2 RZ

section
variable {X : CD} {m : Led} {R : D → Led → Prop} {d d1 d2 : D} {b : Bool}
/-! sorted -/
theorem keys_back {K : Frag} {F : Hp} : ∀ {ks : List (List Int)} {xs : List V}, Dens K F xs (ks.map keyD) → ∃ bs : List Addr, xs = bs.map V.ref ∧ bs.length = ks.length ∧ ∀ (i : Nat) c k, bs[i]? = some c → ks[i]? = some k → SqT K F c (k.map V.int)
  | [], _, .nil => ⟨[], rfl, rfl, fun i c k h => by simp at h⟩
  | k :: ks, _, .cons (.tup h hs) r => by
    obtain ⟨bs, e1, e2, e3⟩ := keys_back r
    rw [hs.ints] at h
    refine ⟨_ :: bs, by rw [e1]; rfl, by simp [e2], fun i c k' h1 h2 => ?_⟩
    cases i with
    | zero => simp at h1 h2; subst h1 h2; exact h
    | succ i => exact e3 i c k' (by simpa using h1) (by simpa using h2)
theorem vals_refs_inv : ∀ {bs : List Addr} {us : List Value}, Vals (bs.map V.ref) us → us = bs.map Value.ref
  | [], _, .nil => rfl
  | b :: bs, _, .cons r rs => by rw [vals_refs_inv rs]; cases (show _ = Value.ref b from r); rfl
theorem b_sortT {ks : List (List Int)} (hu : X.A.units + 64 < cLine) (h : LstV m d (ks.map keyD)) (ho : SrtOk ks) (k : ∀ ks' : List (List Int), ks'.Perm ks → ks'.Pairwise (fun a c => lexI c a = false) → RNewL R m (ks'.map keyD) b) : BX X (.builtin "sorted") [d] m R := .mk fun F σ H xs pins s us qs at_ I rs => by
  obtain ⟨v, rfl, q⟩ := qs.one
  obtain ⟨u, rfl, rx⟩ := vals1 rs
  obtain ⟨p, ys, rfl, e1, s1⟩ := h.read at_.toAt q
  cases rx
  obtain ⟨its, rv, hl, hz⟩ := I.list (.inl e1)
  obtain ⟨bs, rfl, hlb, hb⟩ := keys_back s1
  have ei := vals_refs_inv rv
  subst ei
  have tup : ∀ (i : Nat) c kk, bs[i]? = some c → ks[i]? = some kk → TS.TupInts s.heap (.ref c) kk := fun i c kk h1 h2 => by
    obtain ⟨its2, r2, t2, _⟩ := I.tuple (at_.toAt.sub.sqT (hb i c kk h1 h2))
    exact ⟨c, its2.toArray, rfl, t2, by simpa using r2.ints⟩
  have ek : (bs.map Value.ref).map (TS.intsOf s.heap) = ks := by
    apply List.ext_getElem?
    intro i
    rw [List.getElem?_map, List.getElem?_map]
    cases h1 : bs[i]? with
    | none =>
      have := List.getElem?_eq_none_iff.mp h1
      rw [List.getElem?_eq_none (by omega)]
      rfl
    | some c =>
      have hi : i < ks.length := by rw [← hlb]; exact (List.getElem?_eq_some_iff.mp h1).1
      have h2 : ks[i]? = some ks[i] := List.getElem?_eq_getElem hi
      rw [h2]
      exact congrArg some (tup i c _ h1 h2).ints
  have hmem : ∀ v ∈ bs.map Value.ref, TS.TupInts s.heap v (TS.intsOf s.heap v) := fun v hv => by
    obtain ⟨c, hc, rfl⟩ := List.mem_map.mp hv
    obtain ⟨i, hi⟩ := List.mem_iff_getElem?.mp hc
    have hk : i < ks.length := by rw [← hlb]; exact (List.getElem?_eq_some_iff.mp hi).1
    have t := tup i c _ hi (List.getElem?_eq_getElem hk)
    rw [t.ints]
    exact t
  refine SrtO.sorted_ord (swo_I (TS.intsOf s.heap)) hl.isList (by simpa using hz) (fun h2 h₁ a ha kk => ?_) fun out h1 h2 => ?_
  · refine tups_sortable (s := { s with heap := h₁ }) (by show X.A.units + 1 + 1 + 4 < cLine; omega) h2 (fun v hv => (hmem v hv).keeps fun b o e _ => (kk b o e).2) (fun o e => ?_) (by rw [ek]; exact ho)
    have e' : some o = some (seqObj "list" _ 0) := e.symm.trans ha
    cases e'
    intro c
    exact absurd (Value.type.inj c) (by decide)
  · have h3 : ∀ u ∈ out, ∃ a, u = Value.ref a := fun u hu => by
      obtain ⟨c, _, e⟩ := List.mem_map.mp (h2.perm.mem_iff.mp hu)
      exact ⟨c, e.symm⟩
    obtain ⟨n, hn⟩ := sortedAll_at s.heap (bs.map Value.ref) out.toArray
    have pk : (out.map (TS.intsOf s.heap)).Perm ks := by rw [← ek]; exact h2.perm.map _
    have sk : (out.map (TS.intsOf s.heap)).Pairwise (fun a c => lexI c a = false) := List.pairwise_map.mpr h1
    have dn : Dens X.K F (out.map backV) ((out.map (TS.intsOf s.heap)).map keyD) := by
      have : ∀ l : List Value, (∀ v ∈ l, v ∈ bs.map Value.ref) → Dens X.K F (l.map backV) ((l.map (TS.intsOf s.heap)).map keyD) := by
        intro l
        induction l with
        | nil => intro _; exact .nil
        | cons v l ih =>
          intro hv
          obtain ⟨c, hc, rfl⟩ := List.mem_map.mp (hv v (by simp))
          obtain ⟨i, hi⟩ := List.mem_iff_getElem?.mp hc
          have hk : i < ks.length := by rw [← hlb]; exact (List.getElem?_eq_some_iff.mp hi).1
          have h2 : ks[i]? = some ks[i] := List.getElem?_eq_getElem hk
          have t := tup i c _ hi h2
          refine .cons ?_ (ih fun w hw => hv w (by simp [hw]))
          show Den X.K F (.ref c) (keyD (TS.intsOf s.heap (.ref c)))
          rw [t.ints]
          exact .tup (hb i c _ hi h2) Dens.of_ints
      exact this out fun v hv => h2.perm.mem_iff.mp hv
    refine ⟨.ref _, upd H (s.heap.objs.size + 1) (.lst (out.map backV)), I.laid (t' := s.toks) (fun b o e => sortedAll_old e) (Nat.le_succ _) ⟨?_, out, n, vals_back h3, hn⟩, rfl, new_lstB at_.toAt (I.hok.fresh (Nat.le_succ _)) dn (k _ pk sk)⟩
    rw [List.length_map, h2.perm.length_eq, List.length_map]
    simpa using hz
theorem b_sortI {ns : List Int} (h : LstV m d (ns.map D.int)) (k : ∀ ns' : List Int, ns'.Perm ns → ns'.Pairwise (· ≤ ·) → RNewL R m (ns'.map D.int) b) : BX X (.builtin "sorted") [d] m R := BX.of cr_sortedI fun F H xs qs at_ => by
  obtain ⟨v, rfl, q⟩ := qs.one
  obtain ⟨p, ys, rfl, e1, s1⟩ := h.read at_.toAt q
  exact ⟨p, ns, rfl, by rw [← s1.ints]; exact .inl e1, fun ns' l h1 h2 h3 => new_lstB at_.toAt h3 Dens.of_ints (k ns' h1 h2)⟩
theorem b_maxL {ns : List Int} (hc : X.calm = true) (h : LstV m d (ns.map D.int)) (h0 : 0 < ns.length) (k : ∀ i, i ∈ ns → (∀ y ∈ ns, y ≤ i) → R (.int i) m) : BX X (.builtin "max") [d] m R := BX.of (cr_max hc) fun F H xs qs at_ => by
  obtain ⟨v, rfl, q⟩ := qs.one
  obtain ⟨p, ys, rfl, e1, s1⟩ := h.read at_.toAt q
  exact ⟨p, ns, rfl, by rw [← s1.ints]; exact .inl e1, h0, fun i h1 h2 => PQ.now at_ (.int _) (k i h1 h2)⟩
theorem b_minL {ns : List Int} (hc : X.calm = true) (h : LstV m d (ns.map D.int)) (h0 : 0 < ns.length) (k : ∀ i, i ∈ ns → (∀ y ∈ ns, i ≤ y) → R (.int i) m) : BX X (.builtin "min") [d] m R := BX.of (cr_min hc) fun F H xs qs at_ => by
  obtain ⟨v, rfl, q⟩ := qs.one
  obtain ⟨p, ys, rfl, e1, s1⟩ := h.read at_.toAt q
  exact ⟨p, ns, rfl, by rw [← s1.ints]; exact .inl e1, h0, fun i h1 h2 => PQ.now at_ (.int _) (k i h1 h2)⟩
/-! tuples put together, sliced -/
theorem o_catT {as bs : List D} (hl : as.length + bs.length ≤ 100000) (k : R (.tup (as ++ bs)) m) : OX X (binaryOp .Add) (.tup as) (.tup bs) m R := OX.of op_catA fun F H x y q1 q2 at_ => by
  obtain ⟨p, xs, rfl, e1, s1⟩ := tup_read at_.toAt q1
  obtain ⟨q, ys, rfl, e2, s2⟩ := tup_read at_.toAt q2
  refine ⟨p, q, xs, ys, rfl, rfl, e1, e2, lenOk (by rw [s1.length, s2.length]; exact hl), fun e => ?_, fun _ e => ?_, fun _ _ l hl => new_tup at_.toAt hl (s1.append s2) k⟩
  · subst e
    cases s1
    exact PQ.now at_ q2 k
  · subst e
    cases s2
    rw [List.append_nil] at k
    exact PQ.now at_ q1 k
theorem cut_all {as : List D} {lo hi : Option Int} (h : HT.sIx as.length 0 lo = 0 ∧ HT.sIx as.length as.length hi = as.length) : cutD as lo hi = as := by
  unfold cutD
  rw [h.1, h.2]
  simp
theorem sl_tupW {as : List D} {lo hi : Option Int} (k : R (.tup (cutD as lo hi)) m) : SlX X (.tup as) lo hi m R := .mk ⟨_, sl_tupA, fun F H x q at_ => by
  obtain ⟨p, xs, rfl, e1, s1⟩ := tup_read at_.toAt q
  refine ⟨p, xs, rfl, e1, fun e => ?_, fun _ l hl => new_tup at_.toAt hl (s1.cut lo hi) k⟩
  rw [s1.length] at e
  rw [cut_all e] at k
  exact PQ.now at_ q k⟩
end
section
variable {X : CD} {e o a c : Expr} {es : List Expr} {ρ : Rn} {m : Led} {R : D → Led → Prop} {p p2 pos pos2 apos cpos : Pos} {mg : Str → Option Value} {b : Bool}
theorem rg_dens {K : Frag} {F : Hp} {i j : Int} : Dens K F (rgV i j) (rangeD i (j - i).toNat) := by
  have : rangeD i (j - i).toNat = ((List.range (j - i).toNat).map fun (n : Nat) => i + (n : Int)).map D.int := by
    unfold rangeD
    simp [List.map_map, Function.comp_def]
  rw [this]
  have e : rgV i j = ((List.range (j - i).toNat).map fun (n : Nat) => i + (n : Int)).map V.int := by
    unfold rgV
    simp [List.map_map, Function.comp_def]
  rw [e]
  exact Dens.of_ints
/-- list(range(a)) -/
theorem x_listRg (hml : X.mg "list" = none) (hmr : X.mg "range" = none) (h : EX X a ρ m fun d m1 => ∃ j : Int, d = .int j ∧ -100000 ≤ j ∧ j ≤ 100000 ∧ RNewL R m1 (rangeD 0 j.toNat) b) (hc : X.calm = true) (hg : Gl X "list") (hg2 : Gl X "range") (hs : starEach [a] X.env = (false, eval a X.env) :: starEach [] X.env)
    (hs2 : starEach [.Call (.Name "range" p2) [a] [] pos2] X.env = (false, eval (.Call (.Name "range" p2) [a] [] pos2) X.env) :: starEach [] X.env) : EX X (.Call (.Name "list" p) [.Call (.Name "range" p2) [a] [] pos2] [] pos) ρ m R := .mk fun F σ H en at_ =>
  SE.of (pe_listRg hc hg hml (prg_1 hg2 hmr (pe_SE (e := a)) hs) hs2) (h.go en at_ fun v d F1 m1 H1 s1 en1 q ⟨j, ed, h1, h2, r⟩ => by
    subst ed
    refine ⟨j, q.int_inv, ⟨by omega, by omega, by omega, by omega, by omega⟩, fun l hl => PQ.step s1.st (new_lstB s1.at2.toAt hl ?_ r)⟩
    have := rg_dens (K := X.K) (F := F1) (i := 0) (j := j)
    simpa using this)
theorem x_tupRg (hml : X.mg "tuple" = none) (hmr : X.mg "range" = none) (h : EX X a ρ m fun d m1 => ∃ j : Int, d = .int j ∧ -100000 ≤ j ∧ j ≤ 100000 ∧ R (.tup (rangeD 0 j.toNat)) m1) (hc : X.calm = true) (hg : Gl X "tuple") (hg2 : Gl X "range") (hs : starEach [a] X.env = (false, eval a X.env) :: starEach [] X.env)
    (hs2 : starEach [.Call (.Name "range" p2) [a] [] pos2] X.env = (false, eval (.Call (.Name "range" p2) [a] [] pos2) X.env) :: starEach [] X.env) : EX X (.Call (.Name "tuple" p) [.Call (.Name "range" p2) [a] [] pos2] [] pos) ρ m R := .mk fun F σ H en at_ =>
  SE.of (pe_tupRg hc hg hml (prg_1 hg2 hmr (pe_SE (e := a)) hs) hs2) (h.go en at_ fun v d F1 m1 H1 s1 en1 q ⟨j, ed, h1, h2, r⟩ => by
    subst ed
    refine ⟨j, q.int_inv, ⟨by omega, by omega, by omega, by omega, by omega⟩, fun l hl => PQ.step s1.st (new_tup s1.at2.toAt hl ?_ r)⟩
    have := rg_dens (K := X.K) (F := F1) (i := 0) (j := j)
    simpa using this)
/-- [.., *e, ..] -/
theorem a_star {R : List D → Led → Prop} (h : EX X e ρ m fun d m1 => ∃ ds, (LstV m1 d ds ∨ d = .tup ds) ∧ AX X es ρ m1 fun ds' m2 => R (ds ++ ds') m2) (hs : starEach (.Starred e p :: es) X.env = (true, eval e X.env) :: starEach es X.env) : AX X (.Starred e p :: es) ρ m R := .mk fun F σ H en at_ =>
  SA.of (_root_.StX.pa_star (pe_SE (e := e)) (pa_SA (es := es)) hs) (h.go en at_ fun v d F1 m1 H1 s1 en1 q ⟨ds, hd, r⟩ => by
    have hh : ∃ l xs, v = V.ref l ∧ (SqT X.K H1 l xs ∨ SqL X.K H1 l xs) ∧ Dens X.K F1 xs ds := by
      rcases hd with hd | rfl
      · obtain ⟨l, xs, rfl, e1, hs⟩ := hd.read s1.at2.toAt q
        exact ⟨l, xs, rfl, .inr (.inl e1), hs⟩
      · obtain ⟨l, xs, rfl, e1, hs⟩ := tup_read s1.at2.toAt q
        exact ⟨l, xs, rfl, .inl e1, hs⟩
    obtain ⟨l, xs, rfl, e1, hx⟩ := hh
    exact ⟨l, xs, rfl, e1, r.go en1 s1.at2 fun vs ds' F2 m2 H2 s2 en2 q2 r2 => ⟨ds ++ ds', F2, m2, s1.trans s2.st, (hx.mono s2.ex).append q2, r2⟩⟩)
end
end DL


namespace DL
open PySem PySem.Spec PySem.Calls PyProof.Rows L2 RZ

/-! ### several except clauses, each of which may name the exception, and whose suite returns -/
abbrev Hdl := Value × Option Nat × (Addr → Value → Option Addr → (V → Hp → Prop) → L2.St → Hp → Prop)
/-- what the clauses wish of an exception of the body -/
def wN (K : Frag) (Wout : L2.WX) (rt : V → Hp → Prop) : List Hdl → L2.WX
  | [] => Wout
  | (c, o, ts) :: r => fun cls d σ H => ∃ b, PySem.W.exmOne K cls c = some b ∧ (b = true → ∀ a, H a = none → ts a cls d rt (match o with | none => σ | some i => σ.set i (some (.ref a))) H) ∧ (b = false → wN K Wout rt r cls d σ H)
abbrev RtE (rt : V → Hp → Prop) : Ends := { nx := fun _ _ => False, rt := rt, bk := fun _ _ => False, ct := fun _ _ => False }
inductive HdsN (X : Cx) : List ExceptHandler → List Hdl → Prop
  | nil : HdsN X [] []
  | plain {x : Str} {c : Value} {ts} {b₀ : Stmt} {suite : List Stmt} {np pos' : Pos} {hds : List ExceptHandler} {l : List Hdl} (hc : Names X x c)
      (hsu : ∀ (a : Addr) (oe : Obj) (cls : Value) (d : Option Addr) (pn : List (Addr × Obj)), Zc cls d oe → (∃ vs, oe.data = .fields vs) → PSs (X.suite a ((a, oe) :: pn)) (b₀ :: suite) fun D σ H => ∃ rt, ts a cls d rt σ H ∧ ∀ v H', rt v H' → D.rt v H') (r : HdsN X hds l) :
      HdsN X (.ExceptHandler (some (.Name x np)) none (b₀ :: suite) pos' :: hds) ((c, none, ts) :: l)
  | named {x n : Str} {i : Nat} {c : Value} {ts} {b₀ : Stmt} {suite : List Stmt} {np pos' : Pos} {hds : List ExceptHandler} {l : List Hdl} (hc : Names X x c) (hi : X.N[i]? = some n) (hln : X.env.kindOf n = some .local)
      (hsu : ∀ (a : Addr) (oe : Obj) (cls : Value) (d : Option Addr) (pn : List (Addr × Obj)), Zc cls d oe → (∃ vs, oe.data = .fields vs) → PSs (X.suite a ((a, oe) :: pn)) (b₀ :: suite) fun D σ H => ∃ rt, ts a cls d rt σ H ∧ ∀ v H', rt v H' → D.rt v H') (r : HdsN X hds l) :
      HdsN X (.ExceptHandler (some (.Name x np)) (some n) (b₀ :: suite) pos' :: hds) ((c, some i, ts) :: l)
theorem ps_tryN {X : Cx} {body : List Stmt} {h₀ : ExceptHandler} {hds : List ExceptHandler} {l : List Hdl} {pos : Pos} {tb : L2.WX → TS} {Wout : L2.WX} (hs : X.stack = X.env :: X.outer) (hf : X.env.frame = some X.env.locals) (hN : X.N.Nodup) (tk : Takes X Wout)
    (hb : ∀ (W : L2.WX) (pn : List (Addr × Obj)) (xe : Value → Shared → Prop), Takes (X.tr pn xe) W → PassesOwn (model X.prog X.w) X.A X.env xe → PSs (X.tr pn xe) body (tb W))
    (hh : HdsN X (h₀ :: hds) l) : PS X (.Try body (h₀ :: hds) [] [] pos) (fun D σ H => tb (wN X.K Wout D.rt l) D σ H) := by
  refine ⟨fun pins s σ H D I h => ?_⟩
  have ok := I.ok
  have hfr : X.A.frames = some (X.env :: X.outer) := by rw [ok.frames, hs]
  refine wpAny_Try_except (wpAny_mono ((hb (wN X.K Wout D.rt l) (X.pn ++ pins) (fun e s₁ => wpAny (model X.prog X.w) X.A (noteFrame e X.env) (fun _ s₂ => wpAny (model X.prog X.w) X.A (setFlight e none) (fun _ s₃ =>
    wpAny (model X.prog X.w) X.A (handleBy e X.env (h₀ :: hds)) (SP X pins D) X.xe s₃) X.xe s₂) X.xe s₁) (fun u s' xx => ?_) PassesOwn.looking).run [] s σ H D (I.toTry _) h) (fun f s1 hsp => ?_) (fun e s1 he => he))
  · obtain ⟨a, B, sI, pins', σ', H', cls, d, rfl, J', nb, up, sky, na, os, ag, w⟩ := xx
    have J : Inv X pins σ' H' sI := J'.ofTry ok
    have sky' : Sky B (X.env :: X.outer) a (Zc cls d) X.env.locals s'.heap := by rw [← hs]; exact sky
    show wpAny (model X.prog X.w) X.A (noteFrame (.ref a) X.env) _ _ _
    refine Sky.land Zc.steady hfr hf sky' fun h3 fl3 up3 => ?_
    have J3 : Inv X pins σ' H' { s' with heap := h3 } := J.landed nb fl3.1 (up.trans up3) os ag
    obtain ⟨oe3, vs3, he3, hz3, hd3⟩ := fl3.there
    have nfr : a ∉ frs (X.env :: X.outer) := fun hm => by
      obtain ⟨_, o', e', hnf⟩ := fl3.2.2.1.mem hm
      rw [he3] at e'; cases e'
      exact hnf _ hd3
    have nL : a ≠ X.env.locals := fun z => nfr (List.mem_filterMap.mpr ⟨X.env, List.mem_cons_self, by rw [hf, z]⟩)
    have nF : a ∉ X.fs := fun hm => by
      obtain ⟨e, he, q⟩ := List.mem_filterMap.mp hm
      exact nfr (List.mem_filterMap.mpr ⟨e, List.mem_cons_of_mem _ he, q⟩)
    have S3 := J3.suite he3 hd3 na nL nF
    have test : ∀ {x : Str} {c : Value} {np : Pos}, Names X x c → ∀ {Q : Value → Shared → Prop} {E : Value → Shared → Prop}, Q c { s' with heap := h3 } → wpAny (model X.prog X.w) (X.A.mark (some (.ref a))) (eval (.Name x np) X.env) Q E { s' with heap := h3 } := fun {x c np} hc {Q E} q => by
      obtain ⟨hg, hdbg, hm | ⟨hm, hv, hnn⟩⟩ := hc
      · exact ld_glob (X := X.suite a ((a, oe3) :: (X.pn ++ pins))) S3 hg hm q hdbg
      · exact ld_blt (X := X.suite a ((a, oe3) :: (X.pn ++ pins))) S3 hg hm hv q hnn hdbg
    have LT : PySem.W.Looks (model X.prog X.w) h3 (typeOf (.ref a)) cls := fun A Q E s k q => wpAny_typeOf_ref (k _ _ he3) (by rw [hz3.1]; exact q)
    have go : ∀ {hds' : List ExceptHandler} {l' : List Hdl}, HdsN X hds' l' → wN X.K Wout D.rt l' cls d σ' H' → wpAny (model X.prog X.w) X.A (handleBy (.ref a) X.env hds') (SP X pins D) X.xe { s' with heap := h3 } := by
      intro hds' l' hk
      induction hk with
      | nil =>
        intro w
        refine wpAny_handleBy_nil ?_
        obtain ⟨k1, k2, k3, oe, vs, T, oT, ts', he, hz, hd, h1, hr⟩ := id fl3
        unfold PySem.passOn
        refine wpAny_bind (wpAny_field he hd h1 ?_)
        rw [if_neg (show ¬ ((Value.ref T == Value.none) = true) from by simp)]
        have fin : wpAny (model X.prog X.w) X.A (setFlight (.ref a) X.env.frame) (fun _ s4 => wpAny (model X.prog X.w) X.A (throw (.ref a) : Sem Flow) (SP X pins D) X.xe s4) X.xe { s' with heap := h3 } := by
          rw [hf]
          refine HandSPX.setFlight_upZ fl3 fun h4 hh4 up4 => wpAny_throw (tk _ _ ?_)
          exact ⟨a, B, sI, pins, σ', H', cls, d, rfl, J, nb, (up.trans up3).trans up4, .inr (.inr (by rw [hs]; exact hh4)), na, os, ag, w⟩
        first
          | exact wpAny_bind (wpAny_pure (wpAny_bind fin))
          | exact wpAny_bind fin
      | @plain x c ts b₀ suite np pos' hds2 l2 hc hsu r ih =>
        intro w
        obtain ⟨b, hb1, hyes, hno⟩ := w
        refine wpAny_handleBy_cons (codeAny_handlers_test (test hc ((PySem.W.exm_one (M := model X.prog X.w) J3.kIn LT hb1).here ?_))) (by intro q; cases q)
        cases b with
        | true =>
          refine codeAny_handlers_suite (HandSPX.lands_againZ fl3 fun h4 fl4 up4 => ?_)
          have J4 : Inv X pins σ' H' { s' with heap := h4 } := J.landed nb fl4.1 ((up.trans up3).trans up4) os ag
          obtain ⟨oe4, vs4, he4, hz4, hd4⟩ := fl4.there
          refine wpAny_mono ((hsu a oe4 cls d (X.pn ++ pins) hz4 ⟨_, hd4⟩).run [] _ _ H' (RtE D.rt) (J4.suite he4 hd4 na nL nF) ⟨_, hyes rfl a na, fun _ _ z => z⟩) (fun f s6 hsp => ?_) (fun _ _ z => False.elim z)
          cases f with
          | next => obtain ⟨_, _, _, z⟩ := hsp; exact z.elim
          | brk => obtain ⟨_, _, _, z⟩ := hsp; exact z.elim
          | cont => obtain ⟨_, _, _, z⟩ := hsp; exact z.elim
          | ret u =>
            obtain ⟨v6, σ6, H6, S6, r6, q6⟩ := hsp
            exact ⟨_, _, _, S6.unsuite ok, r6, q6⟩
        | false =>
          show wpAny _ X.A (handleBy (.ref a) X.env hds2) _ _ _
          exact ih (hno rfl)
      | @named x n i c ts b₀ suite np pos' hds2 l2 hc hi hln hsu r ih =>
        intro w
        obtain ⟨b, hb1, hyes, hno⟩ := w
        refine wpAny_handleBy_cons (codeAny_handlers_test (test hc ((PySem.W.exm_one (M := model X.prog X.w) J3.kIn LT hb1).here ?_))) (by intro q; cases q)
        cases b with
        | true =>
          refine codeAny_handlers_suite_as (HandSPX.lands_againZ fl3 fun h4 fl4 up4 => ?_)
          have J4 : Inv X pins σ' H' { s' with heap := h4 } := J.landed nb fl4.1 ((up.trans up3).trans up4) os ag
          obtain ⟨oe4, vs4, he4, hz4, hd4⟩ := fl4.there
          refine store_ok (X := X.suite a ((a, oe4) :: (X.pn ++ pins))) (v := .ref a) (J4.suite he4 hd4 na nL nF) hN hi (.inl hln) rfl (fun s5 S5 => ?_) (.inr hln)
          refine wpAny_mono ((hsu a oe4 cls d (X.pn ++ pins) hz4 ⟨_, hd4⟩).run [] s5 _ H' (RtE D.rt) S5 ⟨_, hyes rfl a na, fun _ _ z => z⟩) (fun f s6 hsp => ?_) (fun _ _ z => False.elim z)
          cases f with
          | next => obtain ⟨_, _, _, z⟩ := hsp; exact z.elim
          | brk => obtain ⟨_, _, _, z⟩ := hsp; exact z.elim
          | cont => obtain ⟨_, _, _, z⟩ := hsp; exact z.elim
          | ret u =>
            obtain ⟨v6, σ6, H6, S6, r6, q6⟩ := hsp
            exact gone_ok (S6.unsuite ok) hN hi hln fun s7 J7 => ⟨_, _, _, J7, r6, q6⟩
        | false =>
          show wpAny _ X.A (handleBy (.ref a) X.env hds2) _ _ _
          exact ih (hno rfl)
    exact go hh w
  · cases f with
    | next =>
      obtain ⟨σ', H', J', q⟩ := hsp
      exact wpAny_execs_nil ⟨σ', H', J'.ofTry ok, q⟩
    | brk =>
      obtain ⟨σ', H', J', q⟩ := hsp
      exact ⟨σ', H', J'.ofTry ok, q⟩
    | cont =>
      obtain ⟨σ', H', J', q⟩ := hsp
      exact ⟨σ', H', J'.ofTry ok, q⟩
    | ret u =>
      obtain ⟨v, σ', H', J', r, q⟩ := hsp
      exact ⟨v, σ', H', J'.ofTry ok, r, q⟩
end DL


namespace DL
open PySem PySem.Spec PySem.Calls PyProof.Rows L2 RZ

/-! ### the whole ledger frozen for a while -/
mutual
def noL : D → Bool
  | .non => true
  | .bl _ => true
  | .int _ => true
  | .str _ => true
  | .ty _ => true
  | .ref _ => true
  | .tup xs => noLs xs
  | _ => false
def noLs : List D → Bool
  | [] => true
  | x :: xs => noL x && noLs xs
end
def isTp : HO → Bool
  | .tup _ => true
  | .frz _ _ => true
  | _ => false
def Nt (F F' : Hp) : Prop := ∀ b o, F b = some o → isTp o = true → F' b = some o
section
variable {K : Frag} {F F' : Hp}
theorem Nt.sqT {a : Addr} {xs : List V} (n : Nt F F') (h : SqT K F a xs) : SqT K F' a xs := by
  rcases h with h | h
  · rcases h with h | ⟨o, h⟩
    · exact .inl (.inl (n a _ h rfl))
    · exact .inl (.inr ⟨o, n a _ h rfl⟩)
  · exact .inr h
theorem noL_tup {ds : List D} (h : noL (.tup ds) = true) : noLs ds = true := by simpa only [noL] using h
theorem noLs_cons {d : D} {ds : List D} (h : noLs (d :: ds) = true) : noL d = true ∧ noLs ds = true := by simpa only [noLs, Bool.and_eq_true] using h
mutual
theorem Den.nt (n : Nt F F') : ∀ {v : V} {d : D}, Den K F v d → noL d = true → Den K F' v d
  | _, _, .non, _ => .non
  | _, _, .bl b, _ => .bl b
  | _, _, .int i, _ => .int i
  | _, _, .str x, _ => .str x
  | _, _, .ty t, _ => .ty t
  | _, _, .ref a, _ => .ref a
  | _, _, .tup h hs, e => .tup (n.sqT h) (Dens.nt n hs (noL_tup e))
  | _, _, .lst .., e => by simp [noL] at e
  | _, _, .lsk .., e => by simp [noL] at e
  | _, _, .dI .., e => by simp [noL] at e
  | _, _, .dK .., e => by simp [noL] at e
  | _, _, .dO .., e => by simp [noL] at e
  | _, _, .obj .., e => by simp [noL] at e
  | _, _, .exc .., e => by simp [noL] at e
  | _, _, .cls h, _ => .cls h
theorem Dens.nt (n : Nt F F') : ∀ {vs : List V} {ds : List D}, Dens K F vs ds → noLs ds = true → Dens K F' vs ds
  | _, _, .nil, _ => .nil
  | _, _, .cons h hs, e => .cons (Den.nt n h (noLs_cons e).1) (Dens.nt n hs (noLs_cons e).2)
end
theorem MDen.ntp {a : Addr} : ∀ {o : MO} {h : HO}, MDen K F a o h → isTp h = false
  | .lst _, _, ⟨xs, q, hs⟩ => by rw [q]; rfl
  | .ins .., _, ⟨C, fs, q, nm, k, hs⟩ => by rw [q]; rfl
  | .own _, _, q => by rw [q]; rfl
  | .dI .., _, ⟨o, xs, vs, q, d, k, t, v, hs⟩ => by rw [q]; rfl
  | .dK .., _, ⟨fs, q, k, hs⟩ => by rw [q]; rfl
  | .dO .., _, ⟨o, xs, hh, kv, val, kV, vV, vs, q, _⟩ => by rw [q]; rfl
open Classical in
def frzA (F : Hp) (m : Led) (H : Hp) : Hp := fun b => if b ∈ keys m then H b else F b
open Classical in
def cutA (F : Hp) (m : Led) : Hp := fun b => if b ∈ keys m then none else F b
variable {H H2 F2 : Hp} {m : Led}
theorem dis_key (a : At K F m H) {b : Addr} (h : b ∈ keys m) : F b = none := by
  obtain ⟨q, hq, rfl⟩ := List.mem_map.mp h
  exact a.dis q hq
theorem Step.frzA (a : At K F m H) : Step K F m H (frzA F m H) [] H := by
  refine ⟨⟨fun b u e => ?_, fun q hq => (nomatch hq), fun q hq => (nomatch hq), List.nodup_nil⟩, fun b u e => ?_, fun _ _ e _ => e, fun b u e n => ?_, fun b hb => (nomatch hb)⟩
  · unfold DL.frzA at e
    split at e
    · exact e
    · exact a.sub b u e
  · unfold DL.frzA
    rw [if_neg (fun z => by rw [dis_key a z] at e; cases e)]
    exact e
  · unfold DL.frzA at e
    split at e
    · rename_i h; exact .inr h
    · rw [n] at e; cases e
theorem Step.cutA (a : At K F m H) (s : Step K (DL.frzA F m H) [] H F2 [] H2) : Step K F m H (cutA F2 m) m H2 ∧ Nt F2 (DL.cutA F2 m) := by
  have ex : Ex F (DL.cutA F2 m) := fun b u e => by
    have nk : b ∉ keys m := fun z => by rw [dis_key a z] at e; cases e
    unfold DL.cutA
    rw [if_neg nk]
    exact s.ex b u (by unfold DL.frzA; rw [if_neg nk]; exact e)
  refine ⟨⟨⟨fun b u e => ?_, fun q hq => ?_, fun q hq => if_pos (List.mem_map.mpr ⟨q, hq, rfl⟩), a.nod⟩, ex, fun b u e _ => s.keep b u e (fun z => nomatch z), fun b u e n => ?_, fun b hb => .inl hb⟩, fun b u e t => ?_⟩
  · unfold DL.cutA at e
    split at e
    · cases e
    · exact s.at2.sub b u e
  · obtain ⟨hh, e1, e2⟩ := a.led q hq
    exact ⟨hh, e1.mono ex, s.keep _ _ e2 (fun z => nomatch z)⟩
  · unfold DL.cutA at e
    split at e
    · cases e
    · rename_i nk
      rcases s.frF b u e (by unfold DL.frzA; rw [if_neg nk]; exact n) with h | h
      · exact .inl h
      · exact nomatch h
  · unfold DL.cutA
    split
    · rename_i h
      exfalso
      obtain ⟨q, hq, rfl⟩ := List.mem_map.mp h
      obtain ⟨hh, e1, e2⟩ := a.led q hq
      have := s.ex q.1 hh (by unfold DL.frzA; rw [if_pos h]; exact e2)
      rw [e] at this
      cases this
      rw [e1.ntp] at t
      cases t
    · exact e
end
section
variable {X : CD} {e : Expr} {ρ ρ' : Rn} {m : Led} {R : D → Led → Prop} {x : Str} {i n : Nat} {p : Addr} {ds : List D}
end
end DL


namespace DL
open PySem PySem.Spec PySem.Calls PyProof.Rows L2 RZ

/-! ### dict of pairs with bare int keys -/
def pairK (p : Int × D) : D := .tup [.int p.1, p.2]
theorem putK_new : ∀ {acc : List (Key × V)} {k : Key} {v : V}, k ∉ acc.map (·.1) → putK acc k v = acc ++ [(k, v)] := by
  intro acc k v h
  unfold putK
  rw [if_neg]
  intro z
  rw [List.any_eq_true] at z
  obtain ⟨x, hx, e⟩ := z
  exact h (List.mem_map.mpr ⟨x, hx, by simpa using e⟩)
theorem mergeK_new : ∀ {more acc : List (Key × V)}, ((acc ++ more).map (·.1)).Nodup → mergeK acc more = acc ++ more := by
  intro more
  induction more with
  | nil => intro acc _; simp [mergeK]
  | cons x xs ih =>
    intro acc h
    have h1 : x.1 ∉ acc.map (·.1) := fun z => by
      rw [List.map_append, List.nodup_append] at h
      exact h.2.2 _ z _ (by simp) rfl
    show mergeK (putK acc x.1 x.2) xs = _
    rw [putK_new h1, ih (by simpa using h)]
    simp
theorem read_pairsK {K : Frag} {F H : Hp} (ex : Ex F H) : ∀ {kvs : List (Int × D)} {xs : List V}, Dens K F xs (kvs.map pairK) → ∃ (ps : List Addr) (vs : List (Key × V)), xs = ps.map V.ref ∧ Paired (fun p kv => SqT K H p [kV kv.1, kv.2]) ps vs ∧ vs.map (·.1) = kvs.map (fun p => Sum.inl p.1) ∧ Dens K F (vs.map (·.2)) (kvs.map (·.2))
  | [], _, .nil => ⟨[], [], rfl, .nil, rfl, .nil⟩
  | (k, d) :: kvs, _, .cons (.tup hq hs) ds => by
    obtain ⟨ps, vs, e1, e2, e3, e4⟩ := read_pairsK ex ds
    obtain ⟨v1, v2, rfl, q1, q2⟩ := hs.two
    cases q1
    exact ⟨_ :: ps, (.inl k, v2) :: vs, by rw [e1]; rfl, .cons (ex.sqT hq) e2, by simp [e3], .cons q2 e4⟩
section
variable {X : CD} {m : Led} {R : D → Led → Prop} {d : D}
theorem b_dictK {kvs : List (Int × D)} (hc : X.calm = true) (h : LstV m d (kvs.map pairK)) (nd : (kvs.map (·.1)).Nodup) (k : R (.dK (kvs.map fun p => .inl p.1) (kvs.map (·.2))) m) : BX X (.type "dict") [d] m R := BX.of (call_dictP hc) fun F H xs qs at_ => by
  obtain ⟨v, rfl, q⟩ := qs.one
  obtain ⟨p, ys, rfl, e1, s1⟩ := h.read at_.toAt q
  obtain ⟨ps, vs, rfl, e2, e3, e4⟩ := read_pairsK at_.toAt.sub s1
  refine ⟨p, ps, vs, rfl, .inl e1, e2, fun a ha => ?_⟩
  have nd2 : (vs.map (·.1)).Nodup := by
    rw [e3]
    have : kvs.map (fun p => (Sum.inl p.1 : Key)) = (kvs.map (·.1)).map Sum.inl := by simp
    rw [this]
    exact List.pairwise_map.mpr (nd.imp fun h z => h (by cases z; rfl))
  rw [mergeK_new (by simpa using nd2), List.nil_append]
  have nw := Step.new (o := .dK vs) at_.toAt ha
  exact ⟨_, _, _, nw, .dK (.inl upd_same) e3 (e4.mono nw.ex), k⟩
end
end DL


namespace DL
open PySem PySem.Spec PySem.Calls PyProof.Rows L2 RZ
open AutoSeq1 (wpAny_loadPart')

/-! ### sorted of a tuple of ints -/
section
variable {prog : Program} {w : World} {A : Around} {E : Value → Shared → Prop} {s : Shared}
theorem collect_tup {l : Addr} {vs : List Value} {Q : List Value → Shared → Prop} (hl : s.heap.IsTuple l vs.toArray)
    (h : Q vs { s with heap := (s.heap.push (seqObj "list" #[] 0)).update s.heap.objs.size (Obj.mapSeq (· ++ vs.toArray)) }) (hsz : vs.length ≤ sizeLine) :
    wpAny (model prog w) A (collect (.ref l)) Q E s := by
  obtain ⟨o, ho, hc, n, hd⟩ := id hl
  unfold collect
  refine wpAny_bind (wpAny_runValue (codeAny_builtin entry_proto_collect' ?_))
  show wpAny _ _ (do again (.builtin "list.__iadd__" ⟨[← newList [], .ref l], []⟩)) _ _ s
  refine wpAny_bind (wpAny_newList (wpAny_pure ⟨Code.quiet_builtin _ (by decide +kernel), codeAny_builtin entry_list_iadd' ?_⟩))
  show wpAny _ _ (Builtin.List.listExtendWith (.ref s.heap.objs.size) (.ref l) (.ref s.heap.objs.size)) _ _ { s with heap := s.heap.push (seqObj "list" #[] 0) }
  unfold Builtin.List.listExtendWith
  have ho' : (s.heap.push (seqObj "list" #[] 0)).get? l = some o := Heap.get?_push_of_some _ ho
  refine wpAny_bind (wpAny_typeOf (T := "tuple") ⟨o, ho', hc⟩ ?_)
  have ht : (Value.type "tuple" == Value.type "tuple") = true := by rfl
  rw [if_pos (by rw [ht]; simp)]
  refine wpAny_bind (listItems_at ho' hd ?_)
  refine wpAny_bind (listItems_at (xs := #[]) (n := 0) (Heap.get?_push_size _ rfl) rfl ?_)
  rw [if_neg (by simp)]
  refine wpAny_bind (listUpdate_at (xs := #[]) (n := 0) (Heap.get?_push_size _ rfl) rfl ?_ (Nat.zero_le _) (by show (#[] ++ vs.toArray).size ≤ sizeLine + 1; simp only [Array.size_append, List.size_toArray, List.length_nil]; omega))
  refine wpAny_pure ?_
  show wpAny (model prog w) A (do
      let o ← load s.heap.objs.size
      match o.data with
      | .seq xs _ => pure xs.toList
      | _ => unsupported "internal:collect") Q E { s with heap := (s.heap.push (seqObj "list" #[] 0)).update s.heap.objs.size (Obj.mapSeq (· ++ vs.toArray)) }
  refine wpAny_bind (wpAny_load (get?_update_seq (Heap.get?_push_size _ rfl) _) ?_)
  show wpAny _ _ (pure ((#[] : Array Value) ++ vs.toArray).toList) Q E _
  rw [show ((#[] : Array Value) ++ vs.toArray).toList = vs by simp]
  exact wpAny_pure h
theorem sorted_ordT {l : Addr} {vs : List Value} {ltv : Value → Value → Bool} {Q : Value → Shared → Prop} (O : SrtO.Swo ltv) (hl : s.heap.IsTuple l vs.toArray) (hz : vs.length ≤ sizeLine)
    (hS : 2 ≤ vs.length → ∀ (h₁ : Heap) (a : Addr), SrtO.SortableO prog w A.in1.in1 { s with heap := h₁ } a vs ltv)
    (h : ∀ out : List Value, SrtO.Srtd ltv out → SrtO.Stb ltv out vs → Q (.ref (s.heap.objs.size + 1)) { s with heap := sortedAll s.heap vs out.toArray }) :
    wpAny (model prog w) A (call (.builtin "sorted") [.ref l]) Q E s := by
  refine Calls.call_function_entry kind_sorted plain_sorted entry_sorted (args_sorted1 _) ?_
  unfold Builtin.«sorted»
  refine wpAny_bind (m := checkCount "sorted" 1 1 _) (wpAny_pure ?_)
  refine wpAny_bind (collect_tup hl ?_ hz)
  refine wpAny_bind (wpAny_newList ?_ hz)
  have hsz : ((s.heap.push (seqObj "list" #[] 0)).update s.heap.objs.size (Obj.mapSeq (· ++ vs.toArray))).objs.size = s.heap.objs.size + 1 := by
    rw [Heap.size_update, size_push']
  have hoL : (((s.heap.push (seqObj "list" #[] 0)).update s.heap.objs.size (Obj.mapSeq (· ++ vs.toArray))).push (seqObj "list" vs.toArray 0)).get? (s.heap.objs.size + 1) = some (seqObj "list" vs.toArray 0) := by
    rw [← hsz]; exact Heap.get?_push_size _ rfl
  show wpAny _ _ _ _ _ { s with heap := ((s.heap.push (seqObj "list" #[] 0)).update s.heap.objs.size (Obj.mapSeq (· ++ vs.toArray))).push (seqObj "list" vs.toArray 0) }
  rw [hsz]
  refine wpAny_bind (wpAny_holding (wpAny_call_entry slot_list_sort ⟨_, hoL, rfl⟩ entry_list_sort (SrtO.list_sort_ord O hoL hz (fun h2 => hS h2 _ _) fun out hs hb => ⟨_, rfl, ?_⟩) (args_list_sort _)))
  exact wpAny_pure ⟨_, rfl, h out hs hb⟩
end
def rSortedT (K : Frag) : List V → Hp → VK → Prop := fun vs H Q => ∃ (a : Addr) (ns : List Int), vs = [V.ref a] ∧ SqT K H a (ns.map V.int) ∧
  ∀ (ns' : List Int) (p : Addr), ns'.Perm ns → ns'.Pairwise (· ≤ ·) → H p = none → Q (.ref p) (upd H p (.lst (ns'.map V.int)))
theorem cr_sortedIT {X : Cx} : CallR X (.builtin "sorted") (rSortedT X.K) := by
  intro pins s σ H vs us Q I r h
  obtain ⟨a, ns, rfl, hs, q⟩ := h
  obtain ⟨its, rv, hl, hz⟩ := I.tuple hs
  rw [Vals.ref1 r]
  have hi := rv.ints
  refine sorted_ordT SrtO.swo_int (show s.heap.IsTuple a its.toArray from hl) (by rw [← rv.length]; exact hz) (fun h2 h₁ a' => SrtO.ints_sortable hi h2) fun out h1 h2 => ?_
  obtain ⟨k1, k2, k3⟩ := SrtO.ints_out hi h1 h2
  obtain ⟨ep, he'⟩ := PyProof.Rows.sortedAll_at s.heap its out.toArray
  have hlen : ((out.map SrtO.iv).map V.int).length ≤ sizeLine := by
    rw [List.length_map, k2.length_eq]
    rw [List.length_map] at hz
    exact hz
  exact ⟨.ref _, upd H (s.heap.objs.size + 1) (.lst ((out.map SrtO.iv).map V.int)), I.laid (t' := s.toks) (fun _ _ => PyProof.Rows.sortedAll_old) (Nat.le_succ _) ⟨hlen, out, ep, vals_of_ints k1, he'⟩, rfl, q _ _ k2 k3 (I.hok.fresh (Nat.le_succ _))⟩
section
variable {X : CD} {m : Led} {R : D → Led → Prop} {b : Bool}
theorem b_sortIT {ns : List Int} (k : ∀ ns' : List Int, ns'.Perm ns → ns'.Pairwise (· ≤ ·) → RNewL R m (ns'.map D.int) b) : BX X (.builtin "sorted") [.tup (ns.map D.int)] m R := BX.of cr_sortedIT fun F H xs qs at_ => by
  obtain ⟨v, rfl, q⟩ := qs.one
  obtain ⟨p, ys, rfl, e1, s1⟩ := tup_read at_.toAt q
  exact ⟨p, ns, rfl, by rw [← s1.ints]; exact e1, fun ns' l h1 h2 h3 => new_lstB at_.toAt h3 Dens.of_ints (k ns' h1 h2)⟩
end
/-! ### enumerate of a tuple -/
section
variable {prog : Program} {w : World} {A : Around} {E : Value → Shared → Prop} {s : Shared}
end
def IteT (K : Frag) (a : Addr) : It :=
  ⟨fun i H => ∃ (xs : List V) (x : V), SqT K H a xs ∧ xs[i]? = some x, fun i H v H' => ∃ T x, v = .ref T ∧ H T = none ∧ H' = upd H T (.tup [.int (i : Nat), x]) ∧ ∀ xs, SqT K H a xs → xs[i]? = some x, fun i H => ∃ xs : List V, SqT K H a xs ∧ xs.length ≤ i⟩
def iEnumT (K : Frag) (ta : TA) : TI := fun σ H R => ta σ H fun vs H1 => ∃ a xs, vs = [.ref a] ∧ ((SqL K H1 a xs ∧ R (Ite K a) H1) ∨ (SqT K H1 a xs ∧ R (IteT K a) H1))
section
variable {X : CD} {a : Expr} {ρ : Rn} {m : Led} {R : List D → Led → Prop} {p pos tpos : Pos}
end
end DL


namespace DL
open PySem PySem.Spec PySem.Calls PyProof.Rows L2 RZ

/-! ### operators of own classes: they may raise -/
structure OE (X : CD) (f : Value → Value → Sem Value) (d1 d2 : D) (ρ : Rn) (m : Led) (R : D → Led → Prop) : Prop where
  run : ∀ F σ H x y pins s v u, Env X F σ ρ → Den X.K F x d1 → Den X.K F y d2 → AtX X F m H → Inv X pins σ H s → RelV x v → RelV y u →
  wpAny (model X.prog X.w) X.A (f v u) (EP X pins σ (PQ X.K F m H R)) X.xe s
structure UE (X : CD) (f : Value → Sem Value) (d1 : D) (ρ : Rn) (m : Led) (R : D → Led → Prop) : Prop where
  run : ∀ F σ H x pins s v, Env X F σ ρ → Den X.K F x d1 → AtX X F m H → Inv X pins σ H s → RelV x v →
  wpAny (model X.prog X.w) X.A (f v) (EP X pins σ (PQ X.K F m H R)) X.xe s
section
variable {X : CD} {a b e : Expr} {ρ : Rn} {m : Led} {R : D → Led → Prop} {E : Str → Option (Str × D) → Led → Prop} {cn mt : Str} {pos : Pos} {k n : Nat} {sp : SpX} {d d1 d2 : D} {f : Value → Value → Sem Value} {g : Value → Sem Value}
theorem OX.toE (h : OX X f d1 d2 m R) : OE X f d1 d2 ρ m R := .mk fun F σ H x y pins s v u en q1 q2 at_ I rx ry => h.run F σ H x y pins s v u q1 q2 at_ I rx ry
theorem UX.toE (h : UX X g d1 m R) : UE X g d1 ρ m R := .mk fun F σ H x pins s v en q1 at_ I rx => h.run F σ H x pins s v q1 at_ I rx
theorem OE.mono {R' : D → Led → Prop} (h : OE X f d1 d2 ρ m R) (kk : ∀ d m, R d m → R' d m) : OE X f d1 d2 ρ m R' := .mk fun F σ H x y pins s v u en q1 q2 at_ I rx ry => thn (h.run F σ H x y pins s v u en q1 q2 at_ I rx ry) fun w s3 ⟨v3, H3, I3, r3, d, F3, m3, st, q, k⟩ => ⟨v3, H3, I3, r3, d, F3, m3, st, q, kk _ _ k⟩
theorem t_cmpE {op : CmpOp} {R : Bool → Led → Prop} (h : EX X a ρ m fun d1 m1 => EX X b ρ m1 fun d2 m2 => OE X (compareOp op) d1 d2 ρ m2 fun d m3 => ∃ k, d = .bl k ∧ R k m3) (hm : behindInMarks op b = false := by first | exact nobehind _ (by decide) (by decide) | rfl | with_unfolding_all rfl) : TX X (.Compare a [op] [b] pos) ρ m R := .mk fun F σ H en at_ => by
  intro pins s I
  refine wpAny_isTrue_Compare1 ?_ hm
  refine binT (R := fun x y H2 => ∃ d1 d2 F2 m2, Step X.K F m H F2 m2 H2 ∧ Den X.K F2 x d1 ∧ Den X.K F2 y d2 ∧ OE X (compareOp op) d1 d2 ρ m2 fun d m3 => ∃ k, d = .bl k ∧ R k m3) (f := fun v u => compareOp op v u) (Q := fun c s3 => wpAny (model X.prog X.w) X.A (truthy c) (TP X pins σ (PB X.K F m H R)) X.xe s3) (pe_SE (e := a)) (pe_SE (e := b)) I ?_ ?_
  · exact h.go en at_ fun v d F1 m1 H1 s1 en1 q1 r1 => r1.go en1 s1.at2 fun v2 d2 F2 m2 H2 s2 en2 q2 r2 => ⟨d, d2, F2, m2, s1.trans s2, q1.mono s2.ex, q2, r2⟩
  · intro v u s2 x y H2 I2 rx ry ⟨d1, d2, F2, m2, st, q1, q2, r⟩
    refine thn (r.run F2 σ H2 x y pins s2 v u (en.mono st.ex) q1 q2 (at_.to st) I2 rx ry) fun w s3 ⟨v3, H3, I3, r3, d, F3, m3, st3, q3, kk, ek, k⟩ => ?_
    subst ek
    cases q3
    cases r3
    exact wpAny_truthy_bool ⟨H3, I3, F3, m3, st.trans st3, k⟩
theorem back_of {pins : List (Addr × Obj)} {σ : L2.St} {Q : VK} {w : Value} {s : Shared} (h : EP X pins σ Q w s) : PySem.W.CmpBack (EP X pins σ Q) w s := by
  obtain ⟨v, H', I, r, q⟩ := id h
  cases v with
  | non => cases r; exact h
  | bl b => cases r; exact h
  | int i => obtain ⟨t, rfl⟩ := r; exact h
  | str i => obtain ⟨t, rfl⟩ := r; exact h
  | byt i => obtain ⟨t, rfl⟩ := r; exact h
  | flt i => obtain ⟨t, rfl⟩ := r; exact h
  | ref a => cases r; exact h
  | ty a => cases r; exact h
/-- own op own -/
abbrev OwnF (K : Frag) (cn : Str) : Prop := ∀ C, CnIs K cn C → PySem.W.selfFirst K C = true
/-- own op int -/
structure IntF (K : Frag) (cn : Str) (nm : String) : Prop where
  ok : ∀ C, CnIs K cn C → PySem.W.selfFirst K C = true ∧ PySem.W.findIn K (.ref C) (PySem.dunderR nm) = some none ∧ (∃ fo, PySem.W.findIn K (.type "int") (PySem.dunder nm) = some fo) ∧ (∃ ro, PySem.W.findIn K (.type "int") (PySem.dunderR nm) = some ro) ∧ PySem.W.subIn K (.type "int") (.ref C) = some false
/-- own == own -/
theorem o_ownE {ns ns2 : List Str} {vs vs2 : List D} (hu : X.A.units + 64 < cLine) (G : KnowsM X.prog X.w X.K X.mg X.base k cn "__eq__" n sp) (hr : Room k X.A) (xa : ∀ nm fd m2, E nm fd m2 → X.xq nm fd ρ m2) (h : ObjV m d1 cn ns vs) (h' : ObjV m d2 cn ns2 vs2) (hh : sp [d1, d2] m R E) : OE X (compareOp .Eq) d1 d2 ρ m R := .mk fun F σ H x y pins s v u en q1 q2 at_ I rx ry => by
  obtain ⟨C', f, fd, ps, FO, hcn, c, M, hb, hl⟩ := G.fn
  obtain ⟨p, C, dx, fs, rfl, e1, hn, rfl, hd⟩ := h.read at_.toAt q1
  obtain ⟨p2, C2, dx2, fs2, rfl, e2, hn2, rfl, hd2⟩ := h'.read at_.toAt q2
  obtain rfl := hn.inj hcn
  obtain rfl := hn2.inj hcn
  cases rx
  cases ry
  obtain ⟨ox, od, J⟩ := inst_at I e1
  obtain ⟨ox2, od2, J2⟩ := inst_at I e2
  obtain ⟨mF, hF⟩ := I.fr
  show wpAny _ _ (richCompare .Eq (.ref p) (.ref p2)) _ _ _
  refine PySem.W.cmp_K (by omega) hF I.ok.mod.kin J J2.type (by unfold PySem.W.notFirst; simp) M.at_ M.fn ?_
  exact thn (run_X FO hr I.env0 hb I (vs := [.ref p, .ref p2]) (us := [.ref p, .ref p2]) (.cons rfl (.cons rfl .nil)) (.cons q1 (.cons q2 .nil)) at_ en xa hh) fun w s3 h3 => back_of h3
end
end DL


namespace DL
open PySem PySem.Spec PySem.Calls PyProof.Rows L2 RZ

/-! ### {} and {k: v}: keys that are tuples of ints -/
section
variable {X : CD} {kx vx : Expr} {ρ : Rn} {m : Led} {R : D → Led → Prop} {pos : Pos} {b : Bool}
def tNewD : TE := fun σ H Q => ∀ p o, H p = none → DictObj p o [] → Q (.ref p) (upd H p (objO p o))
theorem laid_eD {pins : List (Addr × Obj)} {σ : L2.St} {H : Hp} {s : Shared} (I : Inv X.toCx pins σ H s) : H s.heap.objs.size = none ∧ DictObj s.heap.objs.size eD [] ∧ Inv X.toCx pins σ (upd H s.heap.objs.size (objO s.heap.objs.size eD)) { s with heap := s.heap.push eD } := by
  refine ⟨I.hok.fresh (Nat.le_refl _), emptyDict_obj (beq_eq_false_iff_ne.mpr (Nat.ne_of_gt I.big)), ?_⟩
  exact I.laid (t' := s.toks) (fun b o e => Heap.get?_push_of_some _ e) (Nat.le_refl _) (objO_ok (Heap.get?_push_size _ rfl))
theorem pe_newD : PE X.toCx (.Dict [] [] pos) tNewD := ⟨fun pins s σ H Q I h => by
  rw [eval_Dict_empty]
  refine wpAny_bind (wpAny_standAt ?_)
  obtain ⟨h1, h2, h3⟩ := laid_eD I
  refine wpAny_newObj_type ?_
  exact ⟨.ref _, _, h3, rfl, h _ _ h1 h2⟩⟩
theorem dicX_nil {K : Frag} {F : Hp} : DicX K F [] [] [] := ⟨[], rfl, by simp, .nil, .nil⟩
theorem x_newD (k : RNew R m [] [] b) : EX X (.Dict [] [] pos) ρ m R := .mk fun F σ H en at_ => SE.of pe_newD fun p o hp hd => new_dict at_.toAt hp dicX_nil hd k
end
end DL


namespace DL
open PySem PySem.Spec PySem.Calls PyProof.Rows L2 RZ

/-! ### own __iter__ that tells iter(self.f), f a list -/
/-- a def whose promise may tell of the heap's size where it is called -/
structure FnOkS (P : Program) (w : World) (K : Frag) (mg : Str → Option Value) (base : Heap) (CX : CXT) (k : Nat) (f : Addr) (fd : FuncData) (ps : List Str) (sp : Nat → Sp) : Prop where
  len : ∀ n vs H Q E, sp n vs H Q E → vs.length = ps.length
  run : ∀ (A : Around) (outer : List PySem.Env) (s : Shared) (H : Hp) (args : Args) (us : List Value) (vs : List V) (Q : VK) (E : XK), Room k A → Env0 P w K mg base A outer s H → BindsTo s fd args (ps.zip us) → Vals vs us → sp s.heap.objs.size vs H Q E →
    codeAny (model P w) A (.call (.ref f) args) (CR CX outer P w H s Q E) s
theorem fn_ofS {CX : CXT} {P : Program} {w : World} {K : Frag} {mg : Str → Option Value} {base : Heap} {k : Nat} {f : Addr} {name qual : Str} {params : Arguments} {body : List Stmt} {scope : Scope} {dV kV doc pm cdv ct oc : Value} {an od : Option Addr}
    {osl : Array (Option Value)} {N ps : List Str} {sp : Nat → Sp} (lk : K.lookup f = some ⟨oc, od, .func (PySem.W.fnOf name qual params body scope dV kV doc pm an cdv ct), osl⟩) (hcd : PySem.W.codeIn K cdv qual = true) (S : FnScope N ps scope)
    (len : ∀ n vs H Q E, sp n vs H Q E → vs.length = ps.length)
    (hbody : ∀ (A : Around) (outer : List PySem.Env) (s : Shared) (H : Hp) (vs : List V) (Q : VK) (E : XK), Room k (A.deeper (envOfC qual scope s.heap.objs.size f cdv)) → sp s.heap.objs.size vs H Q E →
      ∃ t, PSs (cxOf CX P w K mg base N qual scope f cdv A outer s H E) body t ∧ t { nx := fun _ H' => Q .non H', rt := Q } (start N vs) H) :
    FnOkS P w K mg base CX (k + 1) f (PySem.W.fnOf name qual params body scope dV kV doc pm an cdv ct) ps sp := by
  refine ⟨len, fun A outer s H args us vs Q E hr e0 hb r hsp => ?_⟩
  have hl := len _ _ _ _ _ hsp
  have KX : K.In s.heap := e0.mod.kin.keeps fun b o e => (e0.bs b o e).1
  have lim : s.heap.NoLimit := e0.mod.nolimit.keeps fun b o e => (e0.bs b o e).1
  have hkind : ∀ y ∈ ps.zip us, scope.names.lookup y.1 = some .local ∨ (scope.names.lookup y.1 = some .cell ∧ ((cellsFrom (s.heap.objs.size + 1) scope.names []).lookup y.1).isSome = true) := fun ⟨n, v⟩ hy => by
    rcases S.par n (List.of_mem_zip hy).1 with q | q
    · exact .inl q
    · exact .inr ⟨q, PySem.W.cellsFrom_some _ _ _ (.inl q)⟩
  refine codeAny_call_function hr.depth (KX _ _ lk) rfl S.co S.gen rfl (PySem.W.codeRec_of KX hcd) (hb _ _ _ _ ?_)
  refine wpAny_newFunctionEnv_cells S.kind hkind fun env he s1 x => ?_
  subst he
  refine ⟨lim.keeps x.toInCall.keep, codeAny_func ?_⟩
  obtain ⟨t, ht, hq⟩ := hbody A outer s H vs Q E (hr.deeper _) hsp
  refine wpAny_mono (ht.run [] s1 (start N vs) H _ (inv_start S hr.hd e0 hl r x) hq) (fun fl s' hs => ?_) fun e s' hs => hs
  cases fl with
  | ret u =>
    obtain ⟨v, σ', H', J, rv, q⟩ := hs
    exact ⟨v, H', J.os, J.bare, J.base, J.hok, rv, q⟩
  | next =>
    obtain ⟨σ', H', J, q⟩ := hs
    exact ⟨.non, H', J.os, J.bare, J.base, J.hok, rfl, q⟩
  | brk =>
    obtain ⟨_, _, _, q⟩ := hs
    exact False.elim q
  | cont =>
    obtain ⟨_, _, _, q⟩ := hs
    exact False.elim q
/-- what __iter__ promises: a new iterator over the list in its field -/
def spIter (K : Frag) (cn fld : Str) (n : Nat) : Sp := fun vs H Q _ => ∃ (x C dx : Addr) (fs : List (Str × V)) (l : Addr) (zs : List V), vs = [.ref x] ∧ H x = some (.ins C dx fs) ∧ CnIs K cn C ∧ fs.lookup fld = some (.ref l) ∧ SqL K H l zs ∧ ∀ it, H it = none → n ≤ it → Q (.ref it) (upd H it (ItO l it 0))
section
variable {P : Program} {w : World} {K : Frag} {mg : Str → Option Value} {base : Heap}
theorem iter_ok {cn fld qual : Str} {st : Stmt} {f : Addr} {fd : FuncData} {dvs : List V} {k : Nat} {CX : CXT} (F : FnD K "__iter__" qual st dvs f fd) (S : FnScope ["self"] ["self"] (defScope st)) (hb : ∃ p1 p2 p3 p4 p5, defBody st = [.Return (some (.Call (.Name "iter" p1) [.Attribute (.Name "self" p2) fld p3] [] p4)) p5])
    (A : AttF K cn fld) (hm : mg "iter" = none) (hg : ∀ L cdv, (envOfC qual (defScope st) L f cdv).kindOf "iter" = some .globalImplicit := by intro _ _; rfl) (hv : Vis (defScope st) "self" := by first | exact Or.inl rfl | exact Or.inr (Or.inl rfl) | exact Or.inr (Or.inr rfl)) : FnOkS P w K mg base CX (k + 1) f fd ["self"] (spIter K cn fld) := by
  obtain ⟨p1, p2, p3, p4, p5, hb⟩ := hb
  obtain ⟨oc, od, dV, kV, doc, pm, an, cdv, ct, osl, rfl, lk, hcd, _⟩ := F.ex
  refine fn_ofS lk hcd S (fun n vs H Q E ⟨x, _, _, _, _, _, e, _⟩ => by rw [e]; rfl) fun Ar outer s H vs Q E hr ⟨x, C, dx, fs, l, zs, e1, e2, e3, e4, e5, q⟩ => ?_
  subst e1
  rw [hb]
  obtain ⟨C', hC', c, na⟩ := A.ex
  obtain rfl := CnIs.inj e3 hC'
  refine ⟨_, pss_one (ps_ret (pe_callB ItX.call_iterN (hg _ _) hm boot_iter (pa_cons (pe_fld (pe_var (i := 0) rfl hv) rfl) pa_nil rfl) (by decide) (by decide) rfl rfl)), ?_⟩
  refine ⟨.ref x, rfl, x, C, dx, fs, .ref l, rfl, e2, c, na, e4, ?_⟩
  exact ⟨l, zs, rfl, e5, fun it h1 h2 => q it h1 h2⟩
end
/-- an own class whose __iter__ is such a one -/
structure KnowsI (P : Program) (w : World) (K : Frag) (mg : Str → Option Value) (base : Heap) (k : Nat) (cn fld : Str) : Prop where
  fn : ∃ C f fd, FnOkS P w K mg base CX0 k f fd ["self"] (spIter K cn fld) ∧ CnIs K cn C ∧ Meth K C "__iter__" f ∧ Binds K fd ["self"] []
section
variable {X : CD} {tg it : Expr} {ρ : Rn} {m : Led} {R : List D → Led → Prop} {cn fld : Str} {k : Nat}
def iOwn (X : Cx) (cn fld : Str) (it : Expr) : TI := fun σ H R => SE X it σ H fun x H1 => ∃ (a C dx : Addr) (fs : List (Str × V)) (l : Addr) (zs : List V), x = .ref a ∧ H1 a = some (.ins C dx fs) ∧ CnIs X.K cn C ∧ fs.lookup fld = some (.ref l) ∧ SqL X.K H1 l zs ∧ R (Itl X.K l) H1
theorem own_iter {pins : List (Addr × Obj)} {σ : L2.St} {H : Hp} {s : Shared} {a C dx l : Addr} {fs : List (Str × V)} {zs : List V} {Q : Value → Shared → Prop} (G : KnowsI X.prog X.w X.K X.mg X.base k cn fld) (hr : Room k X.A) (I : Inv X.toCx pins σ H s) (h1 : H a = some (.ins C dx fs)) (hC : CnIs X.K cn C) (h2 : fs.lookup fld = some (.ref l)) (h3 : SqL X.K H l zs)
    (h : ∀ it s', s'.heap.IsListIter it l 0 → FpOk X.toCx pins H it → Inv X.toCx pins σ H s' → Q (.ref it) s') : wpAny (model X.prog X.w) X.A (pyIter (.ref a)) Q X.xe s := by
  obtain ⟨C', f, fd, FO, hC', M, hb⟩ := G.fn
  obtain rfl := CnIs.inj hC hC'
  obtain ⟨ox, od, J⟩ := inst_at I h1
  obtain ⟨mF, hF⟩ := I.fr
  refine PySem.W.owit_iter hF I.ok.mod.kin J M.at_ M.fn ?_
  have hsp : spIter X.K cn fld s.heap.objs.size [.ref a] H (fun v H' => ∃ it, v = .ref it ∧ H it = none ∧ s.heap.objs.size ≤ it ∧ H' = upd H it (ItO l it 0)) E0 := ⟨a, C, dx, fs, l, zs, rfl, h1, hC, h2, h3, fun it q1 q2 => ⟨it, rfl, q1, q2, rfl⟩⟩
  refine wpAny_call (codeAny_mono (FO.run X.A X.stack s H ⟨[.ref a], []⟩ [.ref a] [.ref a] _ E0 hr I.env0 (by
    have := hb s [.ref a] I.kIn (by rfl)
    simpa using this) (.cons rfl .nil) hsp) fun r s' hq' => ?_)
  cases r with
  | error e => exact False.elim hq'
  | ok fl =>
    cases fl with
    | next => exact False.elim hq'
    | brk => exact False.elim hq'
    | cont => exact False.elim hq'
    | ret u =>
      obtain ⟨v, H', I', rv, it, ev, q1, q2, eH⟩ := I.after hq'
      subst ev eH
      cases rv
      have ho := itO_get I' (upd_same)
      have hT : s'.TypeIs (.ref it) "list_iterator" := ⟨_, ho, rfl⟩
      have I2 := ItX.inv_drop I' (upd_same)
      rw [ItX.dropH_upd q1] at I2
      unfold PySem.W.OwitIt
      refine wpAny_specialOf (name := Str.ofString "__next__") hT slot_listiter_next.lookup ?_
      exact h it s' ⟨_, ho, rfl, rfl⟩ (I.fpOk q2 q1) I2
theorem pi_own (G : KnowsI X.prog X.w X.K X.mg X.base k cn fld) (hr : Room k X.A) : PI X.toCx tg it (iOwn X.toCx cn fld it) := by
  refine ⟨fun pins s σ H R I h => ?_⟩
  refine thn (h pins s I) fun v s1 ⟨x, H1, I1, r1, q1⟩ => ?_
  obtain ⟨a, C, dx, fs, l, zs, e, h1, h2, h3, h4, q⟩ := q1
  subst e
  cases r1
  refine own_iter G hr I1 h1 h2 h3 h4 fun it s' hi hf I2 => ?_
  refine ⟨it, [it], _, _, H1, rfl, I2, turn_list l it, hi, fun b hb => ?_, q⟩
  obtain rfl := List.mem_singleton.mp hb
  exact hf
theorem ix_own (G : KnowsI X.prog X.w X.K X.mg X.base k cn fld) (hr : Room k X.A) (h : EX X it ρ m fun d m1 => ∃ ns vs ds, ObjV m1 d cn ns vs ∧ lookF ns vs fld = some (.lst ds) ∧ R ds m1) : IX X tg it ρ m R := .mk fun F σ H en at_ =>
  SI.of (pi_own G hr) (h.go en at_ fun v d F1 m1 H1 s1 en1 q ⟨ns, vs, ds, hv, hl, r⟩ => by
    obtain ⟨a, C, dx, fs, rfl, e1, hn, rfl, hs⟩ := hv.read s1.at2.toAt q
    obtain ⟨u, hu, qu⟩ := lookF_at hs hl
    cases qu with
    | lst hq hqs => exact ⟨a, C, dx, fs, _, _, rfl, e1, hn, hu, .inl (s1.at2.sub.rd hq), ds, F1, m1, s1.st, r, by rw [← hqs.length]; exact walk_list.mono (fun H' e => .inl (e.rd hq)) fun i H' x H'' _ _ y => yd_at hqs y⟩)
end
/-! ### x in o, x not in o -/
section
variable {X : CD} {a b e : Expr} {ρ : Rn} {m : Led} {R : D → Led → Prop} {E : Str → Option (Str × D) → Led → Prop} {cn : Str} {k n : Nat} {sp : SpX} {d1 d2 : D} {ns : List Str} {vs : List D}
end
end DL


namespace DL
open PySem PySem.Spec PySem.Calls PyProof.Rows L2 RZ

/-! ### own __len__ that tells len(self.f), f a list -/
def spLen (K : Frag) (cn fld : Str) (_ : Nat) : Sp := fun vs H Q _ => ∃ (x C dx : Addr) (fs : List (Str × V)) (l : Addr) (zs : List V), vs = [.ref x] ∧ H x = some (.ins C dx fs) ∧ CnIs K cn C ∧ fs.lookup fld = some (.ref l) ∧ SqL K H l zs ∧ Q (.int zs.length) H
section
variable {P : Program} {w : World} {K : Frag} {mg : Str → Option Value} {base : Heap}
end
structure KnowsL (P : Program) (w : World) (K : Frag) (mg : Str → Option Value) (base : Heap) (k : Nat) (cn fld : Str) : Prop where
  fn : ∃ C f fd, FnOkS P w K mg base CX0 k f fd ["self"] (spLen K cn fld) ∧ CnIs K cn C ∧ Meth K C "__len__" f ∧ Binds K fd ["self"] []
section
variable {X : CD} {m : Led} {cn fld : Str} {k : Nat} {pins : List (Addr × Obj)} {σ : L2.St} {H : Hp} {s : Shared} {a C dx l q : Addr} {fs : List (Str × V)} {zs : List V} {A : Around}
end
section
variable {X : CD} {cn fld : Str} {k : Nat}
variable {m : Led} {R : D → Led → Prop} {d : D} {ds : List D} {ns : List Str} {vs : List D} {b : Bool}
end
end DL


namespace DL
open PySem PySem.Spec PyProof.Rows L2 RZ

/-! ### what a piece of code does, over data: what is wanted of the value and of what is raised -/
abbrev XR := Str → Option (Str × D) → Led → Prop
abbrev M (α : Type) := Led → (α → Led → Prop) → XR → Prop
def ret {α : Type} (a : α) : M α := fun m R _ => R a m
def bnd {α β : Type} (c : M α) (k : α → M β) : M β := fun m R E => c m (fun a m' => k a m' R E) E
def bad {α : Type} : M α := fun _ _ _ => False
def iteM {α : Type} (k : Bool) (a b : M α) : M α := fun m R E => (k = true → a m R E) ∧ (k = false → b m R E)
/-- what is raised is wished for by the context -/
abbrev XA (X : CD) (ρ : Rn) (E : XR) : Prop := ∀ nm fd m2, E nm fd m2 → X.xq nm fd ρ m2
abbrev XF (X : CD) (E : XR) : Prop := ∀ ρ nm fd m2, E nm fd m2 → X.xq nm fd ρ m2

/-! ### judgements -/
structure Ev (X : CD) (e : Expr) (ρ : Rn) (c : M D) : Prop where
  run : ∀ m R E, XA X ρ E → c m R E → EX X e ρ m R
structure Tv (X : CD) (e : Expr) (ρ : Rn) (c : M Bool) : Prop where
  run : ∀ m R E, XA X ρ E → c m R E → TX X e ρ m R
structure Wv (X : CD) (e : Expr) (ρ : Rn) (c : M Bool) : Prop where
  run : ∀ m R E, XA X ρ E → c m R E → WX X e ρ m R
structure EvA (X : CD) (es : List Expr) (ρ : Rn) (c : M (List D)) : Prop where
  run : ∀ m R E, XA X ρ E → c m R E → AX X es ρ m R
structure EvO (X : CD) (o : Option Expr) (ρ : Rn) (c : M (Option Int)) : Prop where
  run : ∀ m R E, XA X ρ E → c m R E → PX X o ρ m R
structure Iv (X : CD) (tg it : Expr) (ρ : Rn) (c : M (List D)) : Prop where
  run : ∀ m R E, XA X ρ E → c m R E → IX X tg it ρ m R
theorem AX.mono {X : CD} {es : List Expr} {ρ : Rn} {m : Led} {R R' : List D → Led → Prop} (h : AX X es ρ m R) (q : ∀ d m', R d m' → R' d m') : AX X es ρ m R' := .mk fun F σ H en a => (h.run F σ H en a).mono fun v H1 ⟨d, F1, m1, s, k, r⟩ => ⟨d, F1, m1, s, k, q d m1 r⟩
theorem WX.mono {X : CD} {e : Expr} {ρ : Rn} {m : Led} {R R' : Bool → Led → Prop} (h : WX X e ρ m R) (q : ∀ d m', R d m' → R' d m') : WX X e ρ m R' := .mk fun F σ H en a => (h.run F σ H en a).mono fun v H1 ⟨F1, m1, s, r⟩ => ⟨F1, m1, s, q v m1 r⟩
theorem IX.mono {X : CD} {tg it : Expr} {ρ : Rn} {m : Led} {R R' : List D → Led → Prop} (h : IX X tg it ρ m R) (q : ∀ d m', R d m' → R' d m') : IX X tg it ρ m R' := .mk fun F σ H en a => (h.run F σ H en a).mono fun v H1 ⟨d, F1, m1, s, r, w⟩ => ⟨d, F1, m1, s, q d m1 r, w⟩
theorem PX.mono {X : CD} {o : Option Expr} {ρ : Rn} {m : Led} {R R' : Option Int → Led → Prop} (h : PX X o ρ m R) (q : ∀ d m', R d m' → R' d m') : PX X o ρ m R' := by
  cases o with
  | none => exact q _ _ h
  | some e => exact EX.mono h fun d m' ⟨i, e, r⟩ => ⟨i, e, q _ _ r⟩

/-! ### operations over data -/
def noneM : M D := ret .non
/-- a list of the ledger or a frozen one -/
def lstM (d : D) : M (List D) := fun m R _ => match d with
  | .lst ds => R ds m
  | .ref a => ∃ (n : Nat) (ds : List D), m[n]? = some (a, .lst ds) ∧ R ds m
  | _ => False
theorem lstM_v {d : D} {m R E} (h : lstM d m R E) : ∃ ds, LstV m d ds ∧ R ds m := by
  cases d <;> try exact h.elim
  · exact ⟨_, .inl rfl, h⟩
  · obtain ⟨n, ds, h1, h2⟩ := h
    exact ⟨ds, .inr ⟨n, _, rfl, h1⟩, h2⟩
def isSeqD : D → Bool
  | .lst _ => true
  | .ref _ => true
  | _ => false
def addM (a b : D) : M D := fun m R E => match a, b with
  | .int i, .int j => R (.int (i + j)) m
  | .lst as, .lst bs => as.length + bs.length ≤ 100000 ∧ R (.lst (as ++ bs)) m
  | .lst as, .ref b => lstM (.ref b) m (fun bs m' => as.length + bs.length ≤ 100000 ∧ R (.lst (as ++ bs)) m') E
  | .ref a, .lst bs => lstM (.ref a) m (fun as m' => as.length + bs.length ≤ 100000 ∧ R (.lst (as ++ bs)) m') E
  | .tup as, .tup bs => as.length + bs.length ≤ 100000 ∧ R (.tup (as ++ bs)) m
  | _, _ => False
/-- a + b, the new list to be changed -/
def addMM (a b : D) : M D := fun m R E => lstM a m (fun as m1 => lstM b m1 (fun bs m2 => as.length + bs.length ≤ 100000 ∧ ∀ p, R (.ref p) (m2 ++ [(p, .lst (as ++ bs))])) E) E
def subM (a b : D) : M D := fun m R _ => match a, b with
  | .int i, .int j => R (.int (i - j)) m
  | _, _ => False
def mulM (a b : D) : M D := fun m R _ => match a, b with
  | .int i, .int j => IntMulOk i j ∧ R (.int (i * j)) m
  | _, _ => False
def fdivM (a b : D) : M D := fun m R _ => match a, b with
  | .int i, .int j => CDivG i j ∧ R (.int (i.fdiv j)) m
  | _, _ => False
def modM (a b : D) : M D := fun m R _ => match a, b with
  | .int i, .int j => j ≠ 0 ∧ R (.int (i.fmod j)) m
  | _, _ => False
def powM (a b : D) : M D := fun m R _ => match a, b with
  | .int i, .int j => CPow i j ∧ R (.int (i ^ j.toNat)) m
  | _, _ => False
def binM (op : Operator) (a b : D) : M D := match op with
  | .Add => addM a b
  | .Sub => subM a b
  | .Mult => mulM a b
  | .FloorDiv => fdivM a b
  | .Mod => modM a b
  | .Pow => powM a b
  | _ => bad
section
variable {X : CD} {m : Led} {R : D → Led → Prop} {E : XR} {a b : D}
theorem addM_ok (h : addM a b m R E) : OX X (binaryOp .Add) a b m R := by
  cases a <;> cases b <;> try exact h.elim
  · exact o_add h
  · exact o_cat (.inl rfl) (.inl rfl) h.1 h.2
  · obtain ⟨n, ds, h1, h2, h3⟩ := h
    exact o_cat (.inl rfl) (.inr ⟨n, _, rfl, h1⟩) h2 h3
  · exact o_catT h.1 h.2
  · obtain ⟨n, ds, h1, h2, h3⟩ := h
    exact o_cat (.inr ⟨n, _, rfl, h1⟩) (.inl rfl) h2 h3
theorem binM_ok {op : Operator} (h : binM op a b m R E) : OX X (binaryOp op) a b m R := by
  cases op <;> try exact h.elim
  · exact addM_ok h
  · have h : subM a b m R E := h
    cases a <;> cases b <;> try exact h.elim
    exact o_sub h
  · have h : mulM a b m R E := h
    cases a <;> cases b <;> try exact h.elim
    exact o_mul h.1 h.2
  · have h : modM a b m R E := h
    cases a <;> cases b <;> try exact h.elim
    exact o_modN h.1 h.2
  · have h : powM a b m R E := h
    cases a <;> cases b <;> try exact h.elim
    exact o_pow h.1 h.2
  · have h : fdivM a b m R E := h
    cases a <;> cases b <;> try exact h.elim
    exact o_fdivN h.1 h.2
end
/-- op= -/
def inplM (op : Operator) (a b : D) : M D := fun m R _ => match op, a, b with
  | .Add, .int i, .int j => R (.int (i + j)) m
  | .Sub, .int i, .int j => R (.int (i - j)) m
  | _, _, _ => False
def unM (op : UnaryOp) (a : D) : M D := fun m R _ => match op, a with
  | .USub, .int i => R (.int (-i)) m
  | _, _ => False
theorem unM_ok {X : CD} {op : UnaryOp} {a : D} {m R E} (h : unM op a m R E) : UX X (unaryOp op) a m R := by
  cases op <;> try exact h.elim
  all_goals cases a <;> try exact h.elim
  exact u_neg h
/-! comparisons -/
/-- == of data: None, bools, ints, texts, lists and tuples of such, seen through the ledger -/
def eqD (a b : D) : Bool := PyData.eqv (py a) (py b)
/-- two dicts, with values of such a kind -/
def dicB (a b : D) (m : Led) (R : Bool → Prop) : Prop := ∃ ks ds ls es, DicV m a ks ds ∧ DicV m b ls es ∧ (∀ d ∈ ds, Sh 20 d) ∧ (∀ d ∈ es, Sh 20 d) ∧ R (eqDic ks ds ls es)
def eqB (a b : D) : M Bool := fun m R _ => (∃ a' b', DW m a a' ∧ DW m b b' ∧ Sh 20 a' ∧ Sh 20 b' ∧ R (eqD a' b') m) ∨ dicB a b m fun k => R k m
def neB (a b : D) : M Bool := fun m R _ => (∃ a' b', DW m a a' ∧ DW m b b' ∧ Sh 20 a' ∧ Sh 20 b' ∧ R (!eqD a' b') m) ∨ dicB a b m fun k => R (!k) m
def ordB (f : Int → Int → Bool) (a b : D) : M Bool := fun m R _ => match a, b with
  | .int i, .int j => R (f i j) m
  | _, _ => False
def isB (a b : D) : M Bool := fun m R _ => match b with
  | .non => R (isN a) m
  | _ => False
def isnB (a b : D) : M Bool := fun m R _ => match b with
  | .non => R (!isN a) m
  | _ => False
/-- in, not in: a dict's keys -/
def inB (neg : Bool) (a b : D) : M Bool := fun m R _ => ∃ k ks ds, a = keyD k ∧ DicV m b ks ds ∧ R (if neg then !decide (k ∈ ks) else decide (k ∈ ks)) m
def cmpB (op : CmpOp) (a b : D) : M Bool := match op with
  | .Eq => eqB a b
  | .NotEq => neB a b
  | .Lt => ordB (fun i j => decide (i < j)) a b
  | .LtE => ordB (fun i j => decide (i ≤ j)) a b
  | .Gt => ordB (fun i j => decide (j < i)) a b
  | .GtE => ordB (fun i j => decide (j ≤ i)) a b
  | .Is => isB a b
  | .IsNot => isnB a b
  | .In => inB false a b
  | .NotIn => inB true a b
theorem cmpB_ok {X : CD} {op : CmpOp} {a b : D} {m : Led} {R : Bool → Led → Prop} {E : XR} (hu : X.A.units + 64 < cLine) (h : cmpB op a b m R E) : OX X (compareOp op) a b m fun d m' => ∃ k, d = .bl k ∧ R k m' := by
  cases op <;> try exact h.elim
  · obtain ⟨a', b', h1, h2, h3, h4, h5⟩ | ⟨ks, ds, ls, es, h1, h2, h3, h4, h5⟩ := h
    case inr => exact o_eqDic hu h1 h2 h3 h4 ⟨_, rfl, h5⟩
    exact OX.of (op_eqP hu) fun F H x y q1 q2 at_ => ⟨_, _, h1.dp at_.toAt 20 h3 q1, h2.dp at_.toAt 20 h4 q2, (h3.ok).1, (h4.ok).1, Nat.le_trans (h3.ok).2 (by decide), PQ.now at_.toAt (.bl _) ⟨_, rfl, h5⟩⟩
  · obtain ⟨a', b', h1, h2, h3, h4, h5⟩ | ⟨ks, ds, ls, es, h1, h2, h3, h4, h5⟩ := h
    case inr => exact o_neDic hu h1 h2 h3 h4 ⟨_, rfl, h5⟩
    exact OX.of (op_neP hu) fun F H x y q1 q2 at_ => ⟨_, _, h1.dp at_.toAt 20 h3 q1, h2.dp at_.toAt 20 h4 q2, (h3.ok).1, (h4.ok).1, Nat.le_trans (h3.ok).2 (by decide), PQ.now at_.toAt (.bl _) ⟨_, rfl, h5⟩⟩
  all_goals first
    | (have h : ordB _ a b m R E := h
       cases a <;> cases b <;> try exact h.elim)
    | skip
  · exact o_lt ⟨_, rfl, h⟩
  · exact o_le ⟨_, rfl, h⟩
  · exact o_gt ⟨_, rfl, h⟩
  · exact o_ge ⟨_, rfl, h⟩
  · have h : isB a b m R E := h
    cases b <;> try exact h.elim
    exact o_isN ⟨_, rfl, h⟩
  · have h : isnB a b m R E := h
    cases b <;> try exact h.elim
    exact o_notN ⟨_, rfl, h⟩
  · obtain ⟨k, ks, ds, rfl, h1, h2⟩ := h
    exact o_inD hu h1 ⟨_, rfl, h2⟩
  · obtain ⟨k, ks, ds, rfl, h1, h2⟩ := h
    exact o_notinD hu h1 ⟨_, rfl, h2⟩
def blM (b : Bool) : M D := ret (.bl b)
def cmpM (op : CmpOp) (a b : D) : M D := bnd (cmpB op a b) blM
theorem cmpM_ok {X : CD} {op : CmpOp} {a b : D} {m : Led} {R : D → Led → Prop} {E : XR} (hu : X.A.units + 64 < cLine) (h : cmpM op a b m R E) : OX X (compareOp op) a b m R :=
  .mk fun F σ H x y pins s v u q1 q2 at_ I rx ry => thn ((cmpB_ok hu h).run F σ H x y pins s v u q1 q2 at_ I rx ry) fun w s3 ⟨v3, H3, I3, r3, d, F3, m3, st3, q3, k, ek, kk⟩ => ⟨v3, H3, I3, r3, d, F3, m3, st3, q3, by subst ek; exact kk⟩
/-- truth -/
def truB (d : D) : M Bool := fun m R _ => ∃ k, TruD m d k ∧ R k m
/-- o[i] -/
def ixM (o i : D) : M D := fun m R _ => match o, i with
  | .tup ds, .int i => ∃ x, atI ds i = some x ∧ R x m
  | .lst ds, .int i => ∃ x, atI ds i = some x ∧ R x m
  | .ref a, .int i => ∃ (n : Nat) (ds : List D) (x : D), m[n]? = some (a, .lst ds) ∧ atI ds i = some x ∧ R x m
  | .str z, .int i => ∃ c, z.length ≤ 100000 ∧ atI z.cps.toList i = some c ∧ R (.str ⟨#[c]⟩) m
  | .dI ks ds, .tup kd => ∃ (k : List Int) (j : Nat) (x : D), kd = k.map .int ∧ ks[j]? = some k ∧ ds[j]? = some x ∧ R x m
  | .ref a, .tup kd => ∃ (n : Nat) (ks : List (List Int)) (ds : List D) (k : List Int) (j : Nat) (x : D), m[n]? = some (a, .dI ks ds) ∧ kd = k.map .int ∧ ks[j]? = some k ∧ ds[j]? = some x ∧ R x m
  | _, _ => False
theorem ixM_ok {X : CD} {a b : D} {m R E} (hu : X.A.units + 64 < cLine) (h : ixM a b m R E) : IxX X a b m R := by
  cases a <;> cases b <;> try exact h.elim
  · obtain ⟨c, h1, h2, h3⟩ := h
    exact i_str h1 h2 h3
  · obtain ⟨x, h1, h2⟩ := h
    exact i_lst (.inl rfl) h1 h2
  · obtain ⟨x, h1, h2⟩ := h
    exact i_tup h1 h2
  · obtain ⟨k, j, x, rfl, h1, h2, h3⟩ := h
    exact i_dic hu (.inl rfl) h1 h2 h3
  · obtain ⟨n, ds, x, h1, h2, h3⟩ := h
    exact i_lst (.inr ⟨n, _, rfl, h1⟩) h2 h3
  · obtain ⟨n, ks, ds, k, j, x, h1, rfl, h2, h3, h4⟩ := h
    exact i_dic hu (.inr ⟨n, _, rfl, h1⟩) h2 h3 h4
/-- o[lo:hi] -/
def slM (d : D) (lo hi : Option Int) : M D := fun m R E => match d with
  | .tup ds => R (.tup (cutD ds lo hi)) m
  | d => lstM d m (fun ds m' => R (.lst (cutD ds lo hi)) m') E
theorem slM_ok {X : CD} {d : D} {lo hi : Option Int} {m R E} (h : slM d lo hi m R E) : SlX X d lo hi m R := by
  cases d <;> try exact h.elim
  · exact sl_lst (.inl rfl) h
  · exact sl_tupW h
  · obtain ⟨n, ds, h1, h2⟩ := h
    exact sl_lst (.inr ⟨n, _, rfl, h1⟩) h2
def mkT (ds : List D) : M D := fun m R _ => ds.length ≤ 100000 ∧ R (.tup ds) m
def mkL (ds : List D) : M D := fun m R _ => ds.length ≤ 100000 ∧ R (.lst ds) m
def newL (ds : List D) : M D := fun m R _ => ds.length ≤ 100000 ∧ ∀ p, R (.ref p) (m ++ [(p, .lst ds)])
/-- a list of the ledger, from then on frozen -/
def frzM (d : D) : M D := fun m R _ => match d with
  | .ref p => (∃ (n : Nat) (ds : List D), m[n]? = some (p, .lst ds) ∧ R (.lst ds) (m.eraseIdx n)) ∨ ∃ (n : Nat) (ks : List (List Int)) (ds : List D), m[n]? = some (p, .dI ks ds) ∧ R (.dI ks ds) (m.eraseIdx n)
  | d => R d m

/-! ### expressions -/
section
variable {X : CD} {e a b t : Expr} {es : List Expr} {ρ : Rn} {pos p2 : Pos} {c ca cb : M D} {ct : M Bool} {cs : M (List D)} {i : Nat} {x : Str} {d : D}
theorem ev_var (h : LookAt ρ i x d) (hv : Vis X.env.scope x := by first | exact Or.inl rfl | exact Or.inr (Or.inl rfl) | exact Or.inr (Or.inr rfl)) (hd : (x == ("__debug__" : Str)) = false := by decide)
    (hcd : (x == ("__classdict__" : Str)) = false := by decide) : Ev X (.Name x pos) ρ (ret d) := ⟨fun m R E _ k => x_var h k hv hd hcd⟩
theorem ev_int {i : Int} {j : Nat} : Ev X (.Constant (.int i) j pos) ρ (ret (.int i)) := ⟨fun m R E _ k => x_int k⟩
theorem ev_bl {i : Bool} {j : Nat} : Ev X (.Constant (.bool i) j pos) ρ (ret (.bl i)) := ⟨fun m R E _ k => x_bl k⟩
theorem ev_non {j : Nat} : Ev X (.Constant .none j pos) ρ (ret .non) := ⟨fun m R E _ k => x_non k⟩
theorem ev_str {x : Str} {j : Nat} : Ev X (.Constant (.str x) j pos) ρ (ret (.str x)) := ⟨fun m R E _ k => x_str k⟩
theorem ev_ty {mg : Str → Option Value} {nn : String} (hm : mg x = none) (hv : bootBuiltins x = some (.type nn)) (hX : X.mg = mg := by rfl) (h : Gl X x := by rfl) (hn : x ≠ "__name__" := by decide) (hd : (x == ("__debug__" : Str)) = false := by decide) : Ev X (.Name x pos) ρ (ret (.ty nn)) := ⟨fun m R E _ k => c_ty hm hv k hX h hn hd⟩
theorem ev_glob {mg : Str → Option Value} {K : Frag} {d : D} (hgc : GC K mg x d) (hX : X.mg = mg ∧ X.K = K := by exact ⟨rfl, rfl⟩) (h : Gl X x := by rfl) (hd : (x == ("__debug__" : Str)) = false := by decide) : Ev X (.Name x pos) ρ (ret d) := ⟨fun m R E _ k => c_glob hgc k hX h hd⟩
theorem ev_bin {op : Operator} (ha : Ev X a ρ ca) (hb : Ev X b ρ cb) : Ev X (.BinOp a op b pos) ρ (bnd ca fun x => bnd cb fun y => binM op x y) := ⟨fun m R E xa h =>
  x_bin ((ha.run m _ E xa h).mono fun d1 m1 h1 => (hb.run m1 _ E xa h1).mono fun d2 m2 h2 => binM_ok h2)⟩
theorem ev_un {op : UnaryOp} (ha : Ev X a ρ ca) : Ev X (.UnaryOp op a pos) ρ (bnd ca fun x => unM op x) := ⟨fun m R E xa h => x_un ((ha.run m _ E xa h).mono fun d1 m1 h1 => unM_ok h1)⟩
theorem ev_cmp {op : CmpOp} (hu : X.A.units + 64 < cLine) (ha : Ev X a ρ ca) (hb : Ev X b ρ cb) (hm : behindInMarks op b = false := by first | exact nobehind _ (by decide) (by decide) | rfl | with_unfolding_all rfl) : Ev X (.Compare a [op] [b] pos) ρ (bnd ca fun x => bnd cb fun y => cmpM op x y) := ⟨fun m R E xa h =>
  x_cmp ((ha.run m _ E xa h).mono fun d1 m1 h1 => (hb.run m1 _ E xa h1).mono fun d2 m2 h2 => cmpM_ok hu h2) hm⟩
theorem tv_cmp {op : CmpOp} (hu : X.A.units + 64 < cLine) (ha : Ev X a ρ ca) (hb : Ev X b ρ cb) (hm : behindInMarks op b = false := by first | exact nobehind _ (by decide) (by decide) | rfl | with_unfolding_all rfl) : Tv X (.Compare a [op] [b] pos) ρ (bnd ca fun x => bnd cb fun y => cmpB op x y) := ⟨fun m R E xa h =>
  t_cmp ((ha.run m _ E xa h).mono fun d1 m1 h1 => (hb.run m1 _ E xa h1).mono fun d2 m2 h2 => cmpB_ok hu h2) hm⟩
theorem tv_val (ha : Ev X a ρ ca) (he : ∀ whole, isTrue a X.env whole = (do let v ← whole; standAt a.pos; holding [v] (truthy v)) := by intro _; rfl) : Tv X a ρ (bnd ca truB) := ⟨fun m R E xa h => t_tru ((ha.run m _ E xa h).mono fun d m1 h => h) he⟩
def notB (k : Bool) : M Bool := ret (!k)
theorem tv_not (ha : Tv X a ρ ct) : Tv X (.UnaryOp .Not a pos) ρ (bnd ct notB) := ⟨fun m R E xa h => t_not ((ha.run m _ E xa h).mono fun d m1 h => h)⟩
theorem wv_and1 (ha : Tv X a ρ ct) : Wv X (.BoolOp .And [a] pos) ρ ct := ⟨fun m R E xa h => w_and1 (ha.run m R E xa h)⟩
theorem wv_or1 (ha : Tv X a ρ ct) : Wv X (.BoolOp .Or [a] pos) ρ ct := ⟨fun m R E xa h => w_or1 (ha.run m R E xa h)⟩
def andB (c : M Bool) (k : Bool) : M Bool := iteM k c (ret false)
def orB (c : M Bool) (k : Bool) : M Bool := iteM k (ret true) c
theorem wv_and {ct2 : M Bool} {rest : List Expr} (ha : Tv X a ρ ct) (hb : Wv X (.BoolOp .And (b :: rest) pos) ρ ct2) : Wv X (.BoolOp .And (a :: b :: rest) pos) ρ (bnd ct (andB ct2)) := ⟨fun m R E xa h =>
  w_and ((ha.run m _ E xa h).mono fun k m1 h1 => ⟨fun e => hb.run m1 R E xa (h1.1 e), fun e => h1.2 e⟩)⟩
theorem wv_or {ct2 : M Bool} {rest : List Expr} (ha : Tv X a ρ ct) (hb : Wv X (.BoolOp .Or (b :: rest) pos) ρ ct2) : Wv X (.BoolOp .Or (a :: b :: rest) pos) ρ (bnd ct (orB ct2)) := ⟨fun m R E xa h =>
  w_or ((ha.run m _ E xa h).mono fun k m1 h1 => ⟨fun e => h1.1 e, fun e => hb.run m1 R E xa (h1.2 e)⟩)⟩
theorem tv_w (ha : Wv X a ρ ct) : Tv X a ρ ct := ⟨fun m R E xa h => t_w (ha.run m R E xa h)⟩
/-- and, or, not as values: bools ahead of the last -/
def andM (c : M D) (d : D) : M D := fun m R E => ∃ k, d = .bl k ∧ iteM k c (ret (.bl false)) m R E
def orM (c : M D) (d : D) : M D := fun m R E => ∃ k, d = .bl k ∧ iteM k (ret (.bl true)) c m R E
def notM (d : D) : M D := fun m R _ => ∃ k, d = .bl k ∧ R (.bl (!k)) m
theorem ev_one {op : BoolOp} (ha : Ev X a ρ ca) : Ev X (.BoolOp op [a] pos) ρ ca := ⟨fun m R E xa h => x_one (ha.run m R E xa h)⟩
theorem ev_and {rest : List Expr} (ha : Ev X a ρ ca) (hb : Ev X (.BoolOp .And (b :: rest) pos) ρ cb) : Ev X (.BoolOp .And (a :: b :: rest) pos) ρ (bnd ca (andM cb)) := ⟨fun m R E xa h =>
  x_and ((ha.run m _ E xa h).mono fun d m1 ⟨k, ek, h1⟩ => ⟨k, ek, fun e => hb.run m1 R E xa (h1.1 e), fun e => h1.2 e⟩)⟩
theorem ev_not (ha : Ev X a ρ ca) : Ev X (.UnaryOp .Not a pos) ρ (bnd ca notM) := ⟨fun m R E xa h => x_not ((ha.run m _ E xa h).mono fun d m1 h => h)⟩
theorem eva_nil : EvA X [] ρ (ret []) := ⟨fun m R E _ h => a_nil h⟩
theorem eva_cons (h1 : Ev X e ρ c) (h2 : EvA X es ρ cs) (hs : starEach (e :: es) X.env = (false, eval e X.env) :: starEach es X.env := by rfl) : EvA X (e :: es) ρ (bnd c fun d => bnd cs fun ds => ret (d :: ds)) := ⟨fun m R E xa h =>
  a_cons ((h1.run m _ E xa h).mono fun d m1 h => (h2.run m1 _ E xa h).mono fun ds m2 h => h) hs⟩
theorem ev_tup {x1 : Nat} (h : EvA X es ρ cs) : Ev X (.Tuple es x1 pos) ρ (bnd cs mkT) := ⟨fun m R E xa k => x_tup (h.run m _ E xa k)⟩
theorem ev_lst (h : EvA X es ρ cs) : Ev X (.List es pos) ρ (bnd cs mkL) := ⟨fun m R E xa k => x_lst (h.run m _ E xa k)⟩
theorem ev_lstM (h : EvA X es ρ cs) : Ev X (.List es pos) ρ (bnd cs newL) := ⟨fun m R E xa k => x_lstM (h.run m _ E xa k)⟩
theorem ev_ix (hu : X.A.units + 64 < cLine) (ha : Ev X a ρ ca) (hb : Ev X b ρ cb) (hs : PlainIx b := by intro _ _; rfl) : Ev X (.Subscript a b pos) ρ (bnd ca fun x => bnd cb fun y => ixM x y) := ⟨fun m R E xa h =>
  x_ix ((ha.run m _ E xa h).mono fun d1 m1 h1 => (hb.run m1 _ E xa h1).mono fun d2 m2 h2 => ixM_ok hu h2) hs⟩
def intO (d : D) : M (Option Int) := fun m R _ => match d with
  | .int i => R (some i) m
  | _ => False
theorem evo_none : EvO X none ρ (ret none) := ⟨fun m R E _ h => h⟩
theorem evo_some (h : Ev X e ρ c) : EvO X (some e) ρ (bnd c intO) := ⟨fun m R E xa k => (h.run m _ E xa k).mono fun d m1 h => by
  cases d <;> try exact h.elim
  exact ⟨_, rfl, h⟩⟩
theorem ev_slice {lo hi : Option Expr} {cl ch : M (Option Int)} (h : Ev X e ρ c) (hl : EvO X lo ρ cl) (hh : EvO X hi ρ ch) : Ev X (.Subscript e (.Slice lo hi none p2) pos) ρ (bnd c fun d => bnd cl fun l => bnd ch fun u => slM d l u) := ⟨fun m R E xa k =>
  x_slice ((h.run m _ E xa k).mono fun d m1 k => (hl.run m1 _ E xa k).mono fun l m2 k => (hh.run m2 _ E xa k).mono fun u m3 k => slM_ok k)⟩
end
end DL


namespace DL
open PySem PySem.Spec PySem.Calls PyProof.Rows L2 RZ

/-! ### calls -/
section
variable {X : CD} {e a b t : Expr} {es : List Expr} {kws : List Keyword} {ρ : Rn} {m : Led} {R : D → Led → Prop} {E : XR} {p pos p2 : Pos} {c ca cb : M D} {cs : M (List D)} {x : Str} {k n : Nat} {dd : List D} {sp : SpX} {mg : Str → Option Value} {P : Program} {w : World} {K : Frag} {base : Heap} {ks : List Str} {gD : List D → List D}
theorem x_callE (G : KnowsX X.prog X.w X.K X.mg X.base k x n dd sp) (hr : Room k X.A) (xa : XA X ρ E) (h : AX X (e :: es) ρ m fun ds m1 => sp (ds ++ dd) m1 R E) (hg : Gl X x)
    (hdb : (x == ("__debug__" : Str)) = false) (he : starEach (e :: es) X.env = (false, eval e X.env) :: starEach es X.env) (hpl : (backTo pos (starEach es X.env)).any (·.1) = false) :
    EX X (.Call (.Name x p) (e :: es) [] pos) ρ m R := .mk fun F σ H en at_ => by
  obtain ⟨f, fd, ps, dsv, dvs, FO, hm, hk, hb, hv, hdd, hl⟩ := G.fn
  refine SE.of (pe_callSD (E := WE (WD X.toCx F m H X.xq)) FO hr hg hm hk hb hv (fun σ => passAt at_.tk σ) (pa_SA (es := e :: es)) hdb he hpl) ?_
  refine h.go en at_ fun vs ds F1 m1 H1 s1 en1 q r => ?_
  exact ⟨F1, m1, ds ++ dd, R, E, q.append (hdd F1), s1.st.at2, r, fun d m2 v F2 H2 rd st qd => ⟨d, F2, m2, s1.trans st, qd, rd⟩,
    fun nm C fd' F2 m2 H2 d xr hC st fdd => ⟨nm, C, fd', ρ, F2, m2, hC, rfl, s1.trans st, en1.mono st.ex, fdd, xa _ _ _ xr⟩⟩
theorem ev_call (G : KnowsX P w K mg base k x n [] sp) (hr : Room k X.A) (h : EvA X (e :: es) ρ cs) (hX : X.prog = P ∧ X.w = w ∧ X.K = K ∧ X.mg = mg ∧ X.base = base := by exact ⟨rfl, rfl, rfl, rfl, rfl⟩) (hg : Gl X x := by rfl)
    (hdb : (x == ("__debug__" : Str)) = false := by decide) (he : starEach (e :: es) X.env = (false, eval e X.env) :: starEach es X.env := by rfl) (hpl : (backTo pos (starEach es X.env)).any (·.1) = false := by rfl) :
    Ev X (.Call (.Name x p) (e :: es) [] pos) ρ (bnd cs sp) := ⟨fun m R E xa k => by
  obtain ⟨rfl, rfl, rfl, rfl, rfl⟩ := hX
  exact x_callE G hr xa ((h.run m _ E xa k).mono fun ds m1 h => by rw [List.append_nil]; exact h) hg hdb he hpl⟩
structure EvK (X : CD) (kws : List Keyword) (ρ : Rn) (c : M (List D)) : Prop where
  run : ∀ m R E, XA X ρ E → c m R E → KX X kws ρ m R
theorem KX.mono {R R' : List D → Led → Prop} (h : KX X kws ρ m R) (q : ∀ d m', R d m' → R' d m') : KX X kws ρ m R' := .mk fun F σ H en a => (h.run F σ H en a).mono fun v H1 ⟨d, F1, m1, s, k, r⟩ => ⟨d, F1, m1, s, k, q d m1 r⟩
def kwM (n : Nat) (gD : List D → List D) (sp : SpX) (ds : List D) : M D := fun m R E => ds.length = n ∧ sp (gD ds) m R E
/-! built-ins -/
theorem ev_blt {id : String} {f : List D → M D} (hm : mg x = none) (hv : bootBuiltins x = some (.builtin id)) (ok : ∀ ds m R E, f ds m R E → BX X (.builtin id) ds m R) (h : EvA X (e :: es) ρ cs) (hX : X.mg = mg := by rfl) (hg : Gl X x := by rfl) (hn : x ≠ "__name__" := by decide) (hdb : (x == ("__debug__" : Str)) = false := by decide)
    (he : starEach (e :: es) X.env = (false, eval e X.env) :: starEach es X.env := by rfl) (hpl : (backTo pos (starEach es X.env)).any (·.1) = false := by rfl) : Ev X (.Call (.Name x p) (e :: es) [] pos) ρ (bnd cs f) := ⟨fun m R E xa k =>
  c_cb hm hv ((h.run m _ E xa k).mono fun ds m1 h => ok ds m1 R E h) hX hg hn hdb he hpl⟩
theorem ev_blT {T : String} {f : List D → M D} (hm : mg x = none) (hv : bootBuiltins x = some (.type T)) (ok : ∀ ds m R E, f ds m R E → BX X (.type T) ds m R) (h : EvA X (e :: es) ρ cs) (hX : X.mg = mg := by rfl) (hg : Gl X x := by rfl) (hn : x ≠ "__name__" := by decide) (hdb : (x == ("__debug__" : Str)) = false := by decide)
    (he : starEach (e :: es) X.env = (false, eval e X.env) :: starEach es X.env := by rfl) (hpl : (backTo pos (starEach es X.env)).any (·.1) = false := by rfl) : Ev X (.Call (.Name x p) (e :: es) [] pos) ρ (bnd cs f) := ⟨fun m R E xa k =>
  c_ct hm hv ((h.run m _ E xa k).mono fun ds m1 h => ok ds m1 R E h) hX hg hn hdb he hpl⟩
end
def lenM (ds : List D) : M D := fun m R E => match ds with
  | [.tup xs] => R (.int (xs.length : Nat)) m
  | [.str z] => z.length ≤ 100000 ∧ R (.int (z.length : Nat)) m
  | [.dI ks _] => R (.int (ks.length : Nat)) m
  | [.ref a] => (∃ (n : Nat) (ds : List D), m[n]? = some (a, .lst ds) ∧ R (.int (ds.length : Nat)) m) ∨ ∃ (n : Nat) (ks : List (List Int)) (ds : List D), m[n]? = some (a, .dI ks ds) ∧ R (.int (ks.length : Nat)) m
  | [d] => lstM d m (fun xs m' => R (.int (xs.length : Nat)) m') E
  | _ => False
def absM (ds : List D) : M D := fun m R _ => match ds with
  | [.int i] => R (.int (i.natAbs : Int)) m
  | _ => False
def maxM (ds : List D) : M D := fun m R E => match ds with
  | [.int i, .int j] => R (.int (max i j)) m
  | [d] => lstM d m (fun xs m' => ∃ ns : List Int, xs = ns.map D.int ∧ 0 < ns.length ∧ ∀ i, i ∈ ns → (∀ y ∈ ns, y ≤ i) → R (.int i) m') E
  | _ => False
def minM (ds : List D) : M D := fun m R E => match ds with
  | [.int i, .int j] => R (.int (min i j)) m
  | [d] => lstM d m (fun xs m' => ∃ ns : List Int, xs = ns.map D.int ∧ 0 < ns.length ∧ ∀ i, i ∈ ns → (∀ y ∈ ns, i ≤ y) → R (.int i) m') E
  | _ => False
def intM (ds : List D) : M D := fun m R _ => match ds with
  | [.int i] => R (.int i) m
  | [.bl c] => R (.int (if c then 1 else 0)) m
  | _ => False
def listM (ds : List D) : M D := fun m R E => match ds with
  | [.tup xs] => R (.lst xs) m
  | [.lsk xs] => R (.lst xs) m
  | [.dI ks _] => R (.lst (ks.map keyD)) m
  | [.ref a] => (∃ (n : Nat) (ds : List D), m[n]? = some (a, .lst ds) ∧ R (.lst ds) m) ∨ ∃ (n : Nat) (ks : List (List Int)) (ds : List D), m[n]? = some (a, .dI ks ds) ∧ R (.lst (ks.map keyD)) m
  | [d] => lstM d m (fun xs m' => R (.lst xs) m') E
  | _ => False
/-- list(x), to be changed -/
def listMM (ds : List D) : M D := fun m R E => match ds with
  | [.tup xs] => ∀ p, R (.ref p) (m ++ [(p, .lst xs)])
  | [d] => lstM d m (fun xs m' => ∀ p, R (.ref p) (m' ++ [(p, .lst xs)])) E
  | _ => False
def tupleM (ds : List D) : M D := fun m R E => match ds with
  | [.tup xs] => R (.tup xs) m
  | [d] => lstM d m (fun xs m' => R (.tup xs) m') E
  | _ => False
def sumM (ds : List D) : M D := fun m R E => match ds with
  | [d] => lstM d m (fun xs m' => ∃ ns : List Int, xs = ns.map D.int ∧ R (.int ns.sum) m') E
  | _ => False
def allM (ds : List D) : M D := fun m R E => match ds with
  | [d] => lstM d m (fun xs m' => ∃ ns : List Bool, xs = ns.map D.bl ∧ R (.bl (ns.all id)) m') E
  | _ => False
def anyM (ds : List D) : M D := fun m R E => match ds with
  | [d] => lstM d m (fun xs m' => ∃ ns : List Bool, xs = ns.map D.bl ∧ R (.bl (ns.any id)) m') E
  | _ => False
/-- dict(x): of a list of pairs, of a dict -/
def dictG (b : Bool) (ds : List D) : M D := fun m R E => match ds with
  | [d] => (∃ kvs : List (List Int × D), LstV m d (kvs.map pairD) ∧ (kvs.map (·.1)).Nodup ∧ kvs.length ≤ 100000 ∧ RNew R m (kvs.map (·.1)) (kvs.map (·.2)) b) ∨ (∃ ks vs, DicV m d ks vs ∧ (ks.map hI).Nodup ∧ RNew R m ks vs b) ∨ (b = false ∧ ∃ kvs : List (Int × D), LstV m d (kvs.map pairK) ∧ (kvs.map (·.1)).Nodup ∧ R (.dK (kvs.map fun p => .inl p.1) (kvs.map (·.2))) m)
  | _ => False
abbrev dictM := dictG false
abbrev dictMM := dictG true
/-- sorted(x): tuples of ints, ints -/
def sortG (b : Bool) (ds : List D) : M D := fun m R E => match ds with
  | [d] => (∃ ks : List (List Int), LstV m d (ks.map keyD) ∧ SrtOk ks ∧ ∀ ks' : List (List Int), ks'.Perm ks → ks'.Pairwise (fun a c => lexI c a = false) → RNewL R m (ks'.map keyD) b) ∨
    ∃ ns : List Int, (LstV m d (ns.map D.int) ∨ d = .tup (ns.map D.int)) ∧ ∀ ns' : List Int, ns'.Perm ns → ns'.Pairwise (· ≤ ·) → RNewL R m (ns'.map D.int) b
  | _ => False
abbrev sortedM := sortG false
/-- isinstance of the plain kinds -/
def kinds : List String := ["NoneType", "bool", "int", "str", "list", "tuple"]
def tyNames : List String := ["int", "bool", "list", "tuple", "dict", "str"]
def isiD (t n : String) : Bool := t == n || (t == "bool" && n == "int")
def isiM (ds : List D) : M D := fun m R E => match ds with
  | [.ref a, .ty n] => (∃ (i : Nat) (xs : List D), m[i]? = some (a, .lst xs)) ∧ n ∈ tyNames ∧ R (.bl (isiD "list" n)) m
  | [d, .ty n] => ∃ t, tyD d = some t ∧ n ∈ tyNames ∧ R (.bl (isiD t n)) m
  | _ => False
/-- isinstance, with dicts, instances of the classes cs, and tuples of types -/
def kinds2 : List String := ["NoneType", "bool", "int", "str", "list", "tuple", "dict"]
theorem kitB_all2 : ∀ t ∈ kinds2, ∀ n ∈ tyNames, kitB t n = some (isiD t n) := by decide +kernel
def isiO (cs : List Str) (ds : List D) : M D := fun m R E => match ds with
  | [d, .ty n] => n ∈ tyNames ∧ ((∃ t ∈ kinds2, KindD m d t ∧ R (.bl (isiD t n)) m) ∨ ∃ cn ∈ cs, ∃ ns vs, ObjV m d cn ns vs ∧ R (.bl false) m)
  | [d, .cls cn] => cn ∈ cs ∧ ((∃ t ∈ kinds2, KindD m d t ∧ R (.bl false) m) ∨ ∃ ns vs, ObjV m d cn ns vs ∧ R (.bl true) m)
  | [d, .tup ts] => ∃ nn : List String, ts = nn.map .ty ∧ (∀ n ∈ nn, n ∈ tyNames) ∧ ((∃ t ∈ kinds2, KindD m d t ∧ R (.bl (nn.any (isiD t))) m) ∨ ∃ cn ∈ cs, ∃ ns vs, ObjV m d cn ns vs ∧ R (.bl false) m)
  | _ => False
section
variable {X : CD}
theorem lenM_ok (ds : List D) (m R E) (h : lenM ds m R E) : BX X (.builtin "len") ds m R := by
  unfold lenM at h
  split at h
  · exact b_lenT h
  · exact b_lenS h.1 h.2
  · exact b_lenD (.inl rfl) h
  · rcases h with ⟨n, ds, h1, h2⟩ | ⟨n, ks, ds, h1, h2⟩
    · exact b_len (.inr ⟨n, _, rfl, h1⟩) h2
    · exact b_lenD (.inr ⟨n, _, rfl, h1⟩) h2
  · obtain ⟨xs, h1, h2⟩ := lstM_v h
    exact b_len h1 h2
  · exact h.elim
theorem maxM_ok (hc : X.calm = true := by rfl) (ds : List D) (m R E) (h : maxM ds m R E) : BX X (.builtin "max") ds m R := by
  unfold maxM at h
  split at h
  · exact b_max2 h hc
  · obtain ⟨xs, h1, ns, rfl, h2, h3⟩ := lstM_v h
    exact b_maxL hc h1 h2 h3
  · exact h.elim
theorem minM_ok (hc : X.calm = true := by rfl) (ds : List D) (m R E) (h : minM ds m R E) : BX X (.builtin "min") ds m R := by
  unfold minM at h
  split at h
  · exact b_min2 h hc
  · obtain ⟨xs, h1, ns, rfl, h2, h3⟩ := lstM_v h
    exact b_minL hc h1 h2 h3
  · exact h.elim
theorem intM_ok (ds : List D) (m R E) (h : intM ds m R E) : BX X (.type "int") ds m R := by
  unfold intM at h
  split at h
  · exact b_int h
  · exact b_intB h
  · exact h.elim
theorem listM_ok (hc : X.calm = true := by rfl) (ds : List D) (m R E) (h : listM ds m R E) : BX X (.type "list") ds m R := by
  unfold listM at h
  split at h
  · exact b_listT h
  · exact b_listK h
  · exact b_listD (b := false) hc (.inl rfl) h
  · rcases h with ⟨n, ds, h1, h2⟩ | ⟨n, ks, ds, h1, h2⟩
    · exact b_list (.inr ⟨n, _, rfl, h1⟩) h2
    · exact b_listD (b := false) hc (.inr ⟨n, _, rfl, h1⟩) h2
  · obtain ⟨xs, h1, h2⟩ := lstM_v h
    exact b_list h1 h2
  · exact h.elim
theorem sumM_ok (hc : X.calm = true := by rfl) (ds : List D) (m R E) (h : sumM ds m R E) : BX X (.builtin "sum") ds m R := by
  unfold sumM at h
  split at h
  · obtain ⟨xs, h1, ns, rfl, h2⟩ := lstM_v h
    exact b_sum h1 h2 hc
  · exact h.elim
theorem allM_ok (hc : X.calm = true := by rfl) (ds : List D) (m R E) (h : allM ds m R E) : BX X (.builtin "all") ds m R := by
  unfold allM at h
  split at h
  · obtain ⟨xs, h1, ns, rfl, h2⟩ := lstM_v h
    exact b_all h1 h2 hc
  · exact h.elim
theorem dictG_ok (hu : X.A.units + 64 < cLine) {b : Bool} (hc : X.calm = true := by rfl) (ds : List D) (m R E) (h : dictG b ds m R E) : BX X (.type "dict") ds m R := by
  unfold dictG at h
  split at h
  · rcases h with ⟨kvs, h1, h2, h3, h4⟩ | ⟨ks, vs, h1, h2, h3⟩ | ⟨_, kvs, h1, h2, h3⟩
    · exact b_dict hu hc h1 h2 h3 h4
    · exact b_dictD hu h1 h2 h3
    · exact b_dictK hc h1 h2 h3
  · exact h.elim
theorem sortG_ok (hu : X.A.units + 64 < cLine) {b : Bool} (ds : List D) (m R E) (h : sortG b ds m R E) : BX X (.builtin "sorted") ds m R := by
  unfold sortG at h
  split at h
  · rcases h with ⟨ks, h1, h2, h3⟩ | ⟨ns, h1 | rfl, h2⟩
    · exact b_sortT hu h1 h2 h3
    · exact b_sortI h1 h2
    · exact b_sortIT h2
  · exact h.elim
theorem kitAny_tys {K : Frag} {t : String} (ht : t ∈ kinds2) : ∀ {nn : List String}, (∀ n ∈ nn, n ∈ tyNames) → PySem.W.kitAny K (.type t) (nn.map Value.type) = some (nn.any (isiD t))
  | [], _ => rfl
  | n :: nn, h => by
    rw [List.map_cons, List.any_cons]
    refine kitAny_cons (kit_ty (kitB_all2 t ht n (h n (by simp)))) (fun e => ?_) (fun e => ?_)
    · rw [e, Bool.false_or]
      exact kitAny_tys ht fun x hx => h x (by simp [hx])
    · rw [e, Bool.true_or]
theorem kitAny_obj {K : Frag} {C : Addr} (hC : ∀ n ∈ ["int", "bool", "list", "tuple", "dict", "str"], PySem.W.kitOne K (.ref C) (.type n) = some false) : ∀ {nn : List String}, (∀ n ∈ nn, n ∈ tyNames) → PySem.W.kitAny K (.ref C) (nn.map Value.type) = some false
  | [], _ => rfl
  | n :: nn, h => by
    rw [List.map_cons]
    exact kitAny_cons (hC n (h n (by simp))) (fun e => kitAny_obj hC fun x hx => h x (by simp [hx])) (fun e => by cases e)
theorem isiO_ok {cs : List Str} (hcs : ∀ cn ∈ cs, ObjK X.K cn) (ds : List D) (m R E) (h : isiO cs ds m R E) : BX X (.builtin "isinstance") ds m R := by
  unfold isiO at h
  split at h
  · obtain ⟨hn, ⟨t, ht, hk, r⟩ | ⟨cn, hc, ns, vs, hv, r⟩⟩ := h
    · exact b_isiV (.kind hk rfl) (kit_ty (kitB_all2 t ht _ hn)) r
    · have ok := hcs cn hc
      obtain ⟨C, h1, h2, h3, h4, h5, h6, h7, _⟩ := ok.ex
      exact b_isiV (.own ok h1 hv rfl) (h7 _ hn) r
  · obtain ⟨hc, ⟨t, ht, hk, r⟩ | ⟨ns, vs, hv, r⟩⟩ := h
    · have ok := hcs _ hc
      obtain ⟨C, h1, h2, h3, h4, h5, h6, h7, h8, h9⟩ := ok.ex
      exact b_isiC (.kind hk rfl) h1 (h9 t ht) r
    · have ok := hcs _ hc
      obtain ⟨C, h1, h2, h3, h4, h5, h6, h7, h8, h9⟩ := ok.ex
      exact b_isiC (.own ok h1 hv rfl) h1 h8 r
  · obtain ⟨nn, rfl, hn, ⟨t, ht, hk, r⟩ | ⟨cn, hc, ns, vs, hv, r⟩⟩ := h
    · exact b_isiVT (.kind hk rfl) (kitAny_tys ht hn) r
    · have ok := hcs cn hc
      obtain ⟨C, h1, h2, h3, h4, h5, h6, h7, _⟩ := ok.ex
      exact b_isiVT (.own ok h1 hv rfl) (kitAny_obj h7 hn) r
  · exact h.elim
end

/-! ### what is walked -/
section
variable {X : CD} {a b e tg it : Expr} {ρ : Rn} {p pos tpos : Pos} {mg : Str → Option Value} {c ca cb : M D}
def seqM (d : D) : M (List D) := fun m R _ => match d with
  | .lst ds => R ds m
  | .tup ds => R ds m
  | .dI ks _ => R (ks.map keyD) m
  | _ => False
theorem iv_seq (h : Ev X it ρ c) : Iv X tg it ρ (bnd c seqM) := ⟨fun m R E xa k => ix_seqD ((h.run m _ E xa k).mono fun d m1 h => by
  cases d <;> try exact h.elim
  · exact ⟨_, .inl rfl, h⟩
  · exact ⟨_, .inr (.inl rfl), h⟩
  · exact ⟨_, .inr (.inr ⟨_, _, rfl, rfl⟩), h⟩)⟩
def rngM (d : D) : M (List D) := fun m R _ => match d with
  | .int j => -100000 ≤ j ∧ j ≤ 100000 ∧ R (rangeD 0 j.toNat) m
  | _ => False
theorem iv_range1 (hm : mg "range" = none) (h : Ev X a ρ c) (hX : X.mg = mg := by rfl) (hg : Gl X "range" := by rfl) (hs : starEach [a] X.env = [(false, eval a X.env)] := by rfl) : Iv X tg (.Call (.Name "range" p) [a] [] pos) ρ (bnd c rngM) := ⟨fun m R E xa k => j_range1 hm ((h.run m _ E xa k).mono fun d m1 h => by
  cases d <;> try exact h.elim
  exact ⟨_, rfl, h⟩) hX hg hs⟩
def rngM2 (d d2 : D) : M (List D) := fun m R _ => match d, d2 with
  | .int i, .int j => (-100000 ≤ i ∧ i ≤ 100000 ∧ -100000 ≤ j ∧ j ≤ 100000) ∧ R (rangeD i (j - i).toNat) m
  | _, _ => False
theorem iv_range2 (hm : mg "range" = none) (ha : Ev X a ρ ca) (hb : Ev X b ρ cb) (hX : X.mg = mg := by rfl) (hg : Gl X "range" := by rfl)
    (hs : starEach [a, b] X.env = [(false, eval a X.env), (false, eval b X.env)] := by rfl) (hs2 : starEach [b] X.env = [(false, eval b X.env)] := by rfl) (hs1 : starEach [a, b] X.env = (false, eval a X.env) :: starEach [b] X.env := by rfl) : Iv X tg (.Call (.Name "range" p) [a, b] [] pos) ρ (bnd ca fun x => bnd cb fun y => rngM2 x y) := ⟨fun m R E xa k =>
  j_range2 hm ((ha.run m _ E xa k).mono fun d1 m1 h1 => (hb.run m1 _ E xa h1).mono fun d2 m2 h => by
    cases d1 <;> cases d2 <;> try exact h.elim
    exact ⟨_, _, rfl, rfl, h⟩) hX hg hs hs2 hs1⟩
def zipM (d d2 : D) : M (List D) := fun m R _ => match d, d2 with
  | .lst as, .lst bs => R (zipD as bs) m
  | .tup as, .tup bs => R (zipD as bs) m
  | _, _ => False
theorem iv_zip {elts : List Expr} {kk : Nat} (hm : mg "zip" = none) (ha : Ev X a ρ ca) (hb : Ev X b ρ cb) (hX : X.mg = mg := by rfl) (hg : Gl X "zip" := by rfl)
    (hs : starEach [a, b] X.env = (false, eval a X.env) :: starEach [b] X.env := by rfl) (hs2 : starEach [b] X.env = (false, eval b X.env) :: starEach [] X.env := by rfl) (hpl : (backTo pos (starEach [b] X.env)).any (·.1) = false := by rfl) : Iv X (.Tuple elts kk tpos) (.Call (.Name "zip" p) [a, b] [] pos) ρ (bnd ca fun x => bnd cb fun y => zipM x y) := ⟨fun m R E xa k =>
  j_zip hm ((ha.run m _ E xa k).mono fun d1 m1 h1 => (hb.run m1 _ E xa h1).mono fun d2 m2 h => by
    cases d1 <;> cases d2 <;> try exact h.elim
    · exact ⟨_, _, .inl ⟨rfl, rfl⟩, h⟩
    · exact ⟨_, _, .inr ⟨rfl, rfl⟩, h⟩) hX hg hs hs2 hpl⟩
def enumM (d : D) : M (List D) := fun m R _ => match d with
  | .lst as => R (enumD as) m
  | .tup as => R (enumD as) m
  | _ => False
end
end DL


namespace DL
open PySem PySem.Spec PySem.Calls PyProof.Rows L2 RZ

/-! ### comprehensions -/
def NoX : XR := fun _ _ _ => False
def compM (f : D → M (Option D)) : List D → List D → M (List D)
  | [], acc => ret acc
  | d :: ds, acc => fun m R E => f d m (fun o m' => match o with
    | some z => acc.length < 100000 ∧ compM f ds (acc ++ [z]) m' R E
    | none => compM f ds acc m' R E) NoX
def someM (d : D) : M (Option D) := ret (some d)
def lsM (ds : List D) : M D := ret (.lst ds)
def lsMM (ds : List D) : M D := fun m R _ => ∀ p, R (.ref p) (m ++ [(p, .lst ds)])
def un2 (d : D) (k : D → D → M (Option D)) : M (Option D) := fun m R E => ∃ a b, d = .tup [a, b] ∧ k a b m R E
section
variable {X : CD} {elt it t : Expr} {scope : Scope} {ifs : List Expr} {ρ : Rn} {pos py p0 p1 p2 px spos : Pos} {y z x : Str} {i j k n0 : Nat} {ci : M (List D)} {f : D → M (Option D)} {celt : D → M D} {ct : D → M Bool} {celt2 : D → D → M D} {ct2 : D → D → M Bool} {ρ2 : D → Rn} {ρ3 : D → D → Rn}
structure Cv (X : CD) (scope : Scope) (ifs : List Expr) (elt : Expr) (y : Str) (j : Nat) (ρ : Rn) (f : D → M (Option D)) : Prop where
  run : ∀ (d : D) (m : Led) (R : Option D → Led → Prop), f d m R NoX → ∃ ρ2, SetAt ρ j y d ρ2 ∧ ∀ (s : Shared) (H0 : Hp) (C : Addr) (cl : List (Str × Addr)) (fp : List Addr),
    match ifs with
    | [] => EX (X.blk s H0 scope (compEnvC scope cl C X.env) fp) elt ρ2 m fun z m3 => R (some z) m3
    | [c] => TX (X.blk s H0 scope (compEnvC scope cl C X.env) fp) c ρ2 m fun k m2 => (k = true → ∀ (s : Shared) (H0 : Hp) (C : Addr) (cl : List (Str × Addr)) (fp : List Addr), EX (X.blk s H0 scope (compEnvC scope cl C X.env) fp) elt ρ2 m2 fun z m3 => R (some z) m3) ∧ (k = false → R none m2)
    | _ => False
structure CvP (X : CD) (scope : Scope) (ifs : List Expr) (elt : Expr) (y : Str) (j : Nat) (z : Str) (k : Nat) (ρ : Rn) (f : D → M (Option D)) : Prop where
  run : ∀ (d : D) (m : Led) (R : Option D → Led → Prop), f d m R NoX → ∃ d1 d2 ρ1 ρ2, d = .tup [d1, d2] ∧ SetAt ρ j y d1 ρ1 ∧ SetAt ρ1 k z d2 ρ2 ∧ ∀ (s : Shared) (H0 : Hp) (C : Addr) (cl : List (Str × Addr)) (fp : List Addr),
    match ifs with
    | [] => EX (X.blk s H0 scope (compEnvC scope cl C X.env) fp) elt ρ2 m fun z m3 => R (some z) m3
    | [c] => TX (X.blk s H0 scope (compEnvC scope cl C X.env) fp) c ρ2 m fun k m2 => (k = true → ∀ (s : Shared) (H0 : Hp) (C : Addr) (cl : List (Str × Addr)) (fp : List Addr), EX (X.blk s H0 scope (compEnvC scope cl C X.env) fp) elt ρ2 m2 fun z m3 => R (some z) m3) ∧ (k = false → R none m2)
    | _ => False
theorem cv0 (hset : ∀ d, SetAt ρ j y d (ρ2 d)) (he : ∀ d s H0 C cl fp, Ev (X.blk s H0 scope (compEnvC scope cl C X.env) fp) elt (ρ2 d) (celt d)) : Cv X scope [] elt y j ρ fun d => bnd (celt d) someM :=
  ⟨fun d m R h => ⟨ρ2 d, hset d, fun s H0 C cl fp => (he d s H0 C cl fp).run m _ NoX (fun _ _ _ z => z) h⟩⟩
theorem cv1 (hset : ∀ d, SetAt ρ j y d (ρ2 d)) (ht : ∀ d s H0 C cl fp, Tv (X.blk s H0 scope (compEnvC scope cl C X.env) fp) t (ρ2 d) (ct d)) (he : ∀ d s H0 C cl fp, Ev (X.blk s H0 scope (compEnvC scope cl C X.env) fp) elt (ρ2 d) (celt d)) :
    Cv X scope [t] elt y j ρ fun d => bnd (ct d) fun k => iteM k (bnd (celt d) someM) (ret none) :=
  ⟨fun d m R h => ⟨ρ2 d, hset d, fun s H0 C cl fp => ((ht d s H0 C cl fp).run m _ NoX (fun _ _ _ z => z) h).mono fun k m2 h => ⟨fun e s H0 C cl fp => (he d s H0 C cl fp).run m2 _ NoX (fun _ _ _ z => z) (h.1 e), fun e => h.2 e⟩⟩⟩
theorem cvp0 {ρ1 : D → Rn} (hset : ∀ d, SetAt ρ j y d (ρ1 d)) (hset2 : ∀ d d', SetAt (ρ1 d) k z d' (ρ3 d d')) (he : ∀ d d' s H0 C cl fp, Ev (X.blk s H0 scope (compEnvC scope cl C X.env) fp) elt (ρ3 d d') (celt2 d d')) : CvP X scope [] elt y j z k ρ fun d => un2 d fun d1 d2 => bnd (celt2 d1 d2) someM :=
  ⟨fun d m R ⟨a, b, e, h⟩ => ⟨a, b, ρ1 a, ρ3 a b, e, hset a, hset2 a b, fun s H0 C cl fp => (he a b s H0 C cl fp).run m _ NoX (fun _ _ _ z => z) h⟩⟩
theorem cvp1 {ρ1 : D → Rn} (hset : ∀ d, SetAt ρ j y d (ρ1 d)) (hset2 : ∀ d d', SetAt (ρ1 d) k z d' (ρ3 d d')) (ht : ∀ d d' s H0 C cl fp, Tv (X.blk s H0 scope (compEnvC scope cl C X.env) fp) t (ρ3 d d') (ct2 d d')) (he : ∀ d d' s H0 C cl fp, Ev (X.blk s H0 scope (compEnvC scope cl C X.env) fp) elt (ρ3 d d') (celt2 d d')) :
    CvP X scope [t] elt y j z k ρ fun d => un2 d fun d1 d2 => bnd (ct2 d1 d2) fun k => iteM k (bnd (celt2 d1 d2) someM) (ret none) :=
  ⟨fun d m R ⟨a, b, e, h⟩ => ⟨a, b, ρ1 a, ρ3 a b, e, hset a, hset2 a b, fun s H0 C cl fp => ((ht a b s H0 C cl fp).run m _ NoX (fun _ _ _ z => z) h).mono fun k m2 h => ⟨fun e s H0 C cl fp => (he a b s H0 C cl fp).run m2 _ NoX (fun _ _ _ z => z) (h.1 e), fun e => h.2 e⟩⟩⟩
theorem drop_at {α : Type} {xs : List α} {i : Nat} {x : α} (h : xs[i]? = some x) : xs.drop i = x :: xs.drop (i + 1) := by
  obtain ⟨hl, e⟩ := List.getElem?_eq_some_iff.mp h
  rw [List.drop_eq_getElem_cons hl, e]
theorem Cv.I (hc : Cv X scope ifs elt y j ρ f) {ds : List D} {m : Led} {R : List D → Led → Prop} {E : XR} (h : compM f ds [] m R E) : CompI X scope ifs elt y j ρ R ds m := by
  refine ⟨fun i acc m' => compM f (ds.drop i) acc m' R E, h, fun i d acc m' hd hI => ?_, fun acc m' hI => ?_⟩
  · dsimp only at hI
    rw [drop_at hd] at hI
    obtain ⟨ρ2, h1, h2⟩ := hc.run d m' _ hI
    refine ⟨ρ2, h1, fun s H0 C cl fp => ?_⟩
    have h5 := h2 s H0 C cl fp
    rcases ifs with _ | ⟨c, _ | ⟨_, _⟩⟩ <;> exact h5
  · dsimp only at hI
    rw [List.drop_length] at hI
    exact hI
theorem CvP.I (hc : CvP X scope ifs elt y j z k ρ f) {ds : List D} {m : Led} {R : List D → Led → Prop} {E : XR} (h : compM f ds [] m R E) : CompP X scope ifs elt y j z k ρ R ds m := by
  refine ⟨fun i acc m' => compM f (ds.drop i) acc m' R E, h, fun i d acc m' hd hI => ?_, fun acc m' hI => ?_⟩
  · dsimp only at hI
    rw [drop_at hd] at hI
    obtain ⟨d1, d2, ρ1, ρ2, h1, h2, h3, h4⟩ := hc.run d m' _ hI
    refine ⟨d1, d2, ρ1, ρ2, h1, h2, h3, fun s H0 C cl fp => ?_⟩
    have h5 := h4 s H0 C cl fp
    rcases ifs with _ | ⟨c, _ | ⟨_, _⟩⟩ <;> exact h5
  · dsimp only at hI
    rw [List.drop_length] at hI
    exact hI
theorem ev_lc (hj : SlotAt ρ j y) (hi : Iv X (.Name y py) it ρ ci) (hcv : Cv X scope ifs elt y j ρ f) (hl1 : ifs.length ≤ 1 := by decide) (hok : blkC X.N X.env.scope scope [(y, j)] = true := by kernel_rfl)
    (hx : ∀ cl C, Loc (compEnvC scope cl C X.env).scope y := by intro _ _; first | exact Or.inl rfl | exact Or.inr rfl) (hf : ∀ cl C, (scope.names.lookup y == some .cell) = true ∨ (compEnvC scope cl C X.env).scope.names.lookup y = some .local := by intro _ _; first | exact .inl rfl | exact .inr rfl)
    (hc : X.calm = true := by rfl) (hs : ∀ x, foldedSetIterable it X.env x = pure x := by intro _; rfl) : Ev X (.ListComp elt [⟨.Name y py, it, ifs, 0⟩] scope pos) ρ (bnd ci fun ds => bnd (compM f ds []) lsM) := ⟨fun m R E xa h =>
  x_lc hj ((hi.run m _ E xa h).mono fun ds m1 h => hcv.I h) hl1 hok hx hf hc hs⟩
theorem ev_lcP (hj : SlotAt ρ j y) (hk0 : SlotAt ρ k z) (hi : Iv X (.Tuple [.Name y p1, .Name z p2] n0 p0) it ρ ci) (hcv : CvP X scope ifs elt y j z k ρ f) (hl1 : ifs.length ≤ 1 := by decide) (hok : blkC X.N X.env.scope scope [(y, j), (z, k)] = true := by kernel_rfl)
    (hx : ∀ cl C, Loc (compEnvC scope cl C X.env).scope y := by intro _ _; first | exact Or.inl rfl | exact Or.inr rfl) (hx2 : ∀ cl C, Loc (compEnvC scope cl C X.env).scope z := by intro _ _; first | exact Or.inl rfl | exact Or.inr rfl) (hf : ∀ cl C, (scope.names.lookup y == some .cell) = true ∨ (compEnvC scope cl C X.env).scope.names.lookup y = some .local := by intro _ _; first | exact .inl rfl | exact .inr rfl) (hf2 : ∀ cl C, (scope.names.lookup z == some .cell) = true ∨ (compEnvC scope cl C X.env).scope.names.lookup z = some .local := by intro _ _; first | exact .inl rfl | exact .inr rfl)
    (hc : X.calm = true := by rfl) (hs : ∀ x, foldedSetIterable it X.env x = pure x := by intro _; rfl) : Ev X (.ListComp elt [⟨.Tuple [.Name y p1, .Name z p2] n0 p0, it, ifs, 0⟩] scope pos) ρ (bnd ci fun ds => bnd (compM f ds []) lsM) := ⟨fun m R E xa h =>
  x_lcP hj hk0 ((hi.run m _ E xa h).mono fun ds m1 h => hcv.I h) hl1 hok hx hx2 hf hf2 hc hs⟩
end

/-! ### blocks -/
inductive Fl (σ τ : Type) where
  | nx (s : σ) | rt (d : D) | bk (t : τ) | ct (t : τ)
inductive Le : Rn → Rn → Prop
  | nil : Le [] []
  | same {q : Str × Option D} {r r' : Rn} : Le r r' → Le (q :: r) (q :: r')
  | drop {x : Str} {o : Option D} {r r' : Rn} : Le r r' → Le ((x, none) :: r) ((x, o) :: r')
theorem Le.names : ∀ {r r' : Rn}, Le r r' → r.map (·.1) = r'.map (·.1)
  | _, _, .nil => rfl
  | _, _, .same h => by rw [List.map_cons, List.map_cons, h.names]
  | _, _, .drop h => by rw [List.map_cons, List.map_cons, h.names]
theorem Le.get : ∀ {r r' : Rn}, Le r r' → ∀ (i : Nat) (d : D), (r.map (·.2))[i]? = some (some d) → (r'.map (·.2))[i]? = some (some d)
  | _, _, .nil, i, d, h => h
  | _, _, .same h, 0, d, e => e
  | _, _, .same h, i + 1, d, e => by simpa using h.get i d (by simpa using e)
  | _, _, .drop h, 0, d, e => by simp at e
  | _, _, .drop h, i + 1, d, e => by simpa using h.get i d (by simpa using e)
theorem Env.le {X : Cx} {F : Hp} {σ : L2.St} {ρ ρ' : Rn} (e : Env X F σ ρ) (h : Le ρ' ρ) : Env X F σ ρ' :=
  ⟨e.nd, by rw [h.names]; exact e.nm, ⟨by rw [List.length_map]; have := congrArg List.length h.names; simp only [List.length_map] at this; rw [this, e.ev.len, List.length_map], fun i d q => e.ev.get i d (h.get i d q)⟩⟩
section
variable {X : CD} {sts : List Stmt} {st : Stmt} {ρ ρ' : Rn} {m : Led} {E : EndsD} {e tg : Expr} {d : D}
theorem SX.le (h : SX X sts ρ' m E) (l : Le ρ' ρ) : SX X sts ρ m E := .mk fun F σ H en at_ => h.run F σ H (en.le l) at_
theorem TX.le {R : Bool → Led → Prop} (h : TX X e ρ' m R) (l : Le ρ' ρ) : TX X e ρ m R := .mk fun F σ H en at_ => h.run F σ H (en.le l) at_
theorem OX.mono {f : Value → Value → Sem Value} {d1 d2 : D} {R R' : D → Led → Prop} (h : OX X f d1 d2 m R) (k : ∀ d m, R d m → R' d m) : OX X f d1 d2 m R' := .mk fun F σ H x y pins s v u q1 q2 at_ I rx ry => thn (h.run F σ H x y pins s v u q1 q2 at_ I rx ry) fun w s3 ⟨v3, H3, I3, r3, d, F3, m3, st3, q3, kk⟩ => ⟨v3, H3, I3, r3, d, F3, m3, st3, q3, k _ _ kk⟩
theorem StX.mono {d1 d2 d3 : D} {R R' : Led → Prop} (h : StX X d1 d2 d3 m R) (k : ∀ m, R m → R' m) : StX X d1 d2 d3 m R' := by
  obtain ⟨⟨t, pt, r⟩⟩ := h
  exact ⟨_, PSet.any, fun F H o i v q1 q2 q3 at_ => ⟨t, _, pt, r F H o i v q1 q2 q3 at_, fun H' ⟨F2, m2, s, rr⟩ => ⟨F2, m2, s, k _ rr⟩⟩⟩
theorem GX.le {R : Rn → Led → Prop} (h : GX X tg d ρ' m R) (l : Le ρ' ρ) : GX X tg d ρ m R := .mk fun F σ H v en at_ q => h.run F σ H v (en.le l) at_ q
theorem GX.mono {R R' : Rn → Led → Prop} (h : GX X tg d ρ m R) (k : ∀ ρ m, R ρ m → R' ρ m) : GX X tg d ρ m R' := .mk fun F σ H v en at_ q => (h.run F σ H v en at_ q).mono fun σ' H' ⟨ρ2, F2, m2, s, e, r⟩ => ⟨ρ2, F2, m2, s, e, k _ _ r⟩
end
def EF {σ τ : Type} (en : σ → Option Rn) (el : τ → Rn) (R : Fl σ τ → Led → Prop) : EndsD :=
  { nx := fun ρ' m' => ∃ s r, en s = some r ∧ Le r ρ' ∧ R (.nx s) m', rt := fun d m' => R (.rt d) m', bk := fun ρ' m' => ∃ t, Le (el t) ρ' ∧ R (.bk t) m', ct := fun ρ' m' => ∃ t, Le (el t) ρ' ∧ R (.ct t) m' }
structure BF (X : CD) (sts : List Stmt) (ρ : Rn) {σ τ : Type} (en : σ → Option Rn) (el : τ → Rn) (c : M (Fl σ τ)) : Prop where
  run : ∀ m R E, XF X E → c m R E → SX X sts ρ m (EF en el R)
def seqK {σ σ' τ : Type} (k : σ → M (Fl σ' τ)) : Fl σ τ → M (Fl σ' τ)
  | .nx s => k s
  | .rt d => ret (.rt d)
  | .bk t => ret (.bk t)
  | .ct t => ret (.ct t)
def seqF {σ σ' τ : Type} (c : M (Fl σ τ)) (k : σ → M (Fl σ' τ)) : M (Fl σ' τ) := bnd c (seqK k)
def rtM {σ τ : Type} (d : D) : M (Fl σ τ) := ret (.rt d)
section
variable {X : CD} {sts rest A B body : List Stmt} {ρ ρ' : Rn} {σ τ σ1 : Type} {en : σ → Option Rn} {el : τ → Rn} {e1 : σ1 → Rn} {c ca cb k : M (Fl σ τ)} {ce : M D} {ct : M Bool} {e t tg it : Expr} {pos pos' p2 p3 : Pos} {x y : Str} {i j : Nat} {kd : D → M (Fl σ τ)} {ρd : D → Rn} {d : D}
theorem bf_nil {s : σ} {r : Rn} (h : en s = some r := by rfl) (l : Le r ρ) : BF X [] ρ en el (ret (.nx s)) := ⟨fun m R E _ k => s_nil ⟨s, r, h, l, k⟩⟩
theorem bf_ret (h : Ev X e ρ ce) : BF X (.Return (some e) pos :: rest) ρ en el (bnd ce rtM) := ⟨fun m R E xf k => s_cons (s_ret (h.run m _ E (xf ρ) k))⟩
theorem bf_expr (h : Ev X e ρ ce) (hk : BF X rest ρ en el k) (hs : swapsWith e none pos.line X.env = pure false := by rfl) : BF X (.Expr e pos :: rest) ρ en el (bnd ce fun _ => k) := ⟨fun m R E xf q =>
  s_cons (s_expr ((h.run m _ E (xf ρ) q).mono fun d m1 h1 => hk.run m1 R E xf h1) hs)⟩
theorem bf_set (h : Ev X e ρ ce) (hset : ∀ d, SetAt ρ i x d (ρd d)) (hk : ∀ d, BF X rest (ρd d) en el (kd d)) (hx : Loc X.env.scope x := by first | exact Or.inl rfl | exact Or.inr rfl) (hs : swapsWith e (some (.Name x pos')) pos.line X.env = pure false := by rfl)
    (hf : X.fn x = true ∨ X.env.scope.names.lookup x = some .local := by first | exact .inl rfl | exact .inr rfl | assumption) : BF X (.Assign [.Name x pos'] e pos :: rest) ρ en el (bnd ce kd) := ⟨fun m R E xf q =>
  s_cons (s_set ((h.run m _ E (xf ρ) q).mono fun d m1 h1 => ⟨i, ρd d, hset d, (hk d).run m1 R E xf h1⟩) hx hs hf)⟩
/-! if -/
theorem bf_if {ca cb : M (Fl σ1 τ)} {k : σ1 → M (Fl σ τ)} (ht : Tv X t ρ ct) (ha : BF X A ρ (fun s => some (e1 s)) el ca) (hb : BF X B ρ (fun s => some (e1 s)) el cb) (hk : ∀ s, BF X rest (e1 s) en el (k s)) :
    BF X (.If t A B pos :: rest) ρ en el (seqF (bnd ct fun b => iteM b ca cb) k) := ⟨fun m R E xf q => by
  refine s_cons (s_if ((ht.run m _ E (xf ρ) q).mono fun b m1 h1 => ⟨fun eb => ?_, fun eb => ?_⟩))
  · refine (ha.run m1 _ E xf (h1.1 eb)).mono ?_ ?_ ?_ ?_
    · rintro ρ' m' ⟨s, r, e, l, h⟩
      cases e
      exact ((hk s).run m' R E xf h).le l
    · exact fun d m' h => h
    · exact fun ρ' m' h => h
    · exact fun ρ' m' h => h
  · refine (hb.run m1 _ E xf (h1.2 eb)).mono ?_ ?_ ?_ ?_
    · rintro ρ' m' ⟨s, r, e, l, h⟩
      cases e
      exact ((hk s).run m' R E xf h).le l
    · exact fun d m' h => h
    · exact fun ρ' m' h => h
    · exact fun ρ' m' h => h⟩
/-- the branch leaves -/
theorem bf_ifX (ht : Tv X t ρ ct) (ha : BF X A ρ (fun _ : σ => none) el ca) (hk : BF X rest ρ en el k) : BF X (.If t A [] pos :: rest) ρ en el (bnd ct fun b => iteM b ca k) := ⟨fun m R E xf q => by
  refine s_cons (s_if ((ht.run m _ E (xf ρ) q).mono fun b m1 h1 => ⟨fun eb => ?_, fun eb => ?_⟩))
  · refine (ha.run m1 R E xf (h1.1 eb)).mono ?_ ?_ ?_ ?_
    · rintro ρ' m' ⟨s, r, e, l, h⟩
      cases e
    · exact fun d m' h => h
    · exact fun ρ' m' h => h
    · exact fun ρ' m' h => h
  · exact s_nil (hk.run m1 R E xf (h1.2 eb))⟩
end

/-! ### for, while -/
def forF {σ τ : Type} (f : D → σ → M (Fl σ σ)) : List D → σ → M (Fl σ τ)
  | [], s => ret (.nx s)
  | d :: ds, s => bnd (f d s) fun fl => match fl with
    | .nx s' => forF f ds s'
    | .ct s' => forF f ds s'
    | .bk s' => ret (.nx s')
    | .rt d => ret (.rt d)
def whileN {σ τ : Type} (t : σ → M Bool) (f : σ → M (Fl σ σ)) : Nat → σ → M (Fl σ τ)
  | 0, _ => bad
  | n + 1, s => bnd (t s) fun k => iteM k (bnd (f s) fun fl => match fl with
    | .nx s' => whileN t f n s'
    | .ct s' => whileN t f n s'
    | .bk s' => ret (.nx s')
    | .rt d => ret (.rt d)) (ret (.nx s))
def whileF {σ τ : Type} (t : σ → M Bool) (f : σ → M (Fl σ σ)) (s : σ) : M (Fl σ τ) := fun m R E => ∃ n, whileN t f n s m R E
section
variable {X : CD} {rest body : List Stmt} {ρ : Rn} {σ τ σ1 : Type} {en : σ → Option Rn} {el : τ → Rn} {e1 : σ1 → Rn} {e t tg it : Expr} {pos p0 p1 p2 p3 : Pos} {x y z : Str} {i j l n0 : Nat} {d : D} {c : M (Fl σ τ)} {ρ1 : D → Rn} {ρ2 : D → D → Rn} {ρ3 : D → D → D → Rn}
/-- a target, then a block -/
structure BG (X : CD) (tg : Expr) (d : D) (body : List Stmt) (ρ : Rn) {σ τ : Type} (en : σ → Option Rn) (el : τ → Rn) (c : M (Fl σ τ)) : Prop where
  run : ∀ m R E, XF X E → c m R E → GX X tg d ρ m fun ρ2 m2 => SX X body ρ2 m2 (EF en el R)
theorem bg_name {ρ' : Rn} (hset : SetAt ρ i x d ρ') (hb : BF X body ρ' en el c) (hx : Loc X.env.scope x := by first | exact Or.inl rfl | exact Or.inr rfl) (hf : X.fn x = true ∨ X.env.scope.names.lookup x = some .local := by first | exact .inl rfl | exact .inr rfl | assumption) : BG X (.Name x pos) d body ρ en el c := ⟨fun m R E xf q =>
  g_name hset (hb.run m R E xf q) hx hf⟩
def ut2 {α : Type} (d : D) (k : D → D → M α) : M α := fun m R E => ∃ a b, d = .tup [a, b] ∧ k a b m R E
def ut3 {α : Type} (d : D) (k : D → D → D → M α) : M α := fun m R E => ∃ a b c, d = .tup [a, b, c] ∧ k a b c m R E
/-- o[i] = v -/
def stM (o i v : D) : M Unit := fun m R _ => match o, i with
  | .ref a, .int i => ∃ (n : Nat) (ds : List D) (j : Nat), m[n]? = some (a, .lst ds) ∧ ixN ds.length i = some j ∧ R () (m.set n (a, .lst (ds.set j v)))
  | .ref a, .tup kd => ∃ (n : Nat) (ks : List (List Int)) (ds : List D) (k : List Int), m[n]? = some (a, .dI ks ds) ∧ kd = k.map .int ∧ ks.length < 100000 ∧ ((∃ j, ks[j]? = some k ∧ R () (m.set n (a, .dI ks (ds.set j v)))) ∨ (k ∉ ks ∧ R () (m.set n (a, .dI (ks ++ [k]) (ds ++ [v])))))
  | _, _ => False
theorem stM_ok {o i v : D} {m : Led} {R : Unit → Led → Prop} {E : XR} (hu : X.A.units + 64 < cLine) (h : stM o i v m R E) : StX X o i v m (R ()) := by
  cases o <;> cases i <;> try exact h.elim
  · obtain ⟨n, ds, j, h1, h2, h3⟩ := h
    exact st_lst h1 h2 h3
  · obtain ⟨n, ks, ds, k, h1, rfl, h2, h3⟩ := h
    exact st_dict hu h1 h2 h3
theorem bf_sub {o ix : Expr} {ce co ci : M D} {k : M (Fl σ τ)} (hu : X.A.units + 64 < cLine) (he : Ev X e ρ ce) (ho : Ev X o ρ co) (hi : Ev X ix ρ ci) (hk : BF X rest ρ en el k) (hs : swapsWithSole [.Subscript o ix p1] e pos.line X.env = pure false := by rfl) (hw : swappedStores [.Subscript o ix p1] e X.env = pure none := by rfl)
    (h1 : (assignEach [.Subscript o ix p1] X.env).map (·.2) = [assign (.Subscript o ix p1) X.env] := by rfl) (ha : ∀ v, assign (.Subscript o ix p1) X.env v = (do
      let ov ← holding [v] (eval o X.env)
      let iv ← holding [v, ov] (eval ix X.env)
      standAt p1
      holding [v, ov, iv] (setItem ov iv v)
      release [v, ov, iv] []) := by intro _; rfl) : BF X (.Assign [.Subscript o ix p1] e pos :: rest) ρ en el (bnd ce fun v => bnd co fun ov => bnd ci fun iv => bnd (stM ov iv v) fun _ => k) := ⟨fun m R E xf q =>
  s_cons (s_asg ((he.run m _ E (xf ρ) q).mono fun v m1 h => g_sub ((ho.run m1 _ E (xf ρ) h).mono fun ov m2 h => (hi.run m2 _ E (xf ρ) h).mono fun iv m3 h => StX.mono (stM_ok hu h) fun m4 h => hk.run m4 R E xf h) ha) hs hw h1)⟩
theorem bf_for {ci : M (List D)} {f : D → σ1 → M (Fl σ1 σ1)} {k : σ1 → M (Fl σ τ)} {s0 : σ1} (hi : Iv X tg it ρ ci) (h0 : Le (e1 s0) ρ) (hb : ∀ d s, BG X tg d body (e1 s) (fun s => some (e1 s)) e1 (f d s)) (hk : ∀ s, BF X rest (e1 s) en el (k s))
    (hc : X.calm = true := by rfl) (hs : ∀ x, foldedSetIterable it X.env x = pure x := by intro _; rfl) : BF X (.For tg it body [] pos :: rest) ρ en el (bnd ci fun ds => seqF (forF f ds s0) k) := ⟨fun m R E xf q => by
  refine s_cons (s_for ((hi.run m _ E (xf ρ) q).mono fun ds m1 h => ?_) hc hs)
  refine ⟨fun i ρ' m' => ∃ s, Le (e1 s) ρ' ∧ seqF (forF f (ds.drop i) s) k m' R E, ⟨s0, h0, h⟩, ?_, ?_⟩
  · rintro i d ρ' m' hd ⟨s, l, hI⟩
    rw [drop_at hd] at hI
    refine GX.mono (((hb d s).run m' _ E xf hI).le l) fun ρ2 m2 hx => hx.mono ?_ ?_ ?_ ?_
    · rintro ρ3 m3 ⟨s', r, e, l', h'⟩
      cases e
      exact ⟨s', l', h'⟩
    · exact fun d m' h => h
    · rintro ρ3 m3 ⟨s', l', h'⟩
      exact ((hk s').run m3 R E xf h').le l'
    · rintro ρ3 m3 ⟨s', l', h'⟩
      exact ⟨s', l', h'⟩
  · rintro ρ' m' ⟨s, l, hI⟩
    rw [List.drop_length] at hI
    exact ((hk s).run m' R E xf hI).le l⟩
end
end DL


namespace DL
open PySem PySem.Spec PySem.Calls PyProof.Rows L2 RZ

section
variable {X : CD} {elt it t : Expr} {scope : Scope} {ifs : List Expr} {ρ : Rn} {pos py p0 p1 p2 px spos : Pos} {y z x : Str} {i j k n0 : Nat} {ci : M (List D)} {f : D → M (Option D)} {rest : List Stmt} {σ τ : Type} {en : σ → Option Rn} {el : τ → Rn} {kd : D → M (Fl σ τ)} {ρd : D → Rn}
/-! x = [..] -/
theorem CompI.mono {R R' : List D → Led → Prop} {ds : List D} {m : Led} (h : CompI X scope ifs elt y j ρ R ds m) (q : ∀ acc m', R acc m' → R' acc m') : CompI X scope ifs elt y j ρ R' ds m := let ⟨I, a, b, c⟩ := h; ⟨I, a, b, fun acc m' z => q _ _ (c acc m' z)⟩
theorem CompP.mono {R R' : List D → Led → Prop} {ds : List D} {m : Led} (h : CompP X scope ifs elt y j z k ρ R ds m) (q : ∀ acc m', R acc m' → R' acc m') : CompP X scope ifs elt y j z k ρ R' ds m := let ⟨I, a, b, c⟩ := h; ⟨I, a, b, fun acc m' z => q _ _ (c acc m' z)⟩
end
section
variable {X : CD} {e o : Expr} {es : List Expr} {ρ : Rn} {pos apos cpos p p2 pos' np : Pos} {x nm f : Str} {i j k n : Nat} {rest A B body suite : List Stmt} {b₀ : Stmt} {σ τ σ1 : Type} {en : σ → Option Rn} {el : τ → Rn} {e1 : σ1 → Rn} {kd : D → M (Fl σ τ)} {ρd : D → Rn} {ce co : M D} {d : D} {c : M (Fl σ τ)} {ct : M Bool} {t : Expr} {mg : Str → Option Value} {P : Program} {w : World} {K : Frag} {base : Heap} {C : Addr}
/-- a list of the ledger that is not changed any more -/
theorem bf_frz (hl : LookAt ρ i x d) (hset : ∀ u, SetAt ρ i x u (ρd u)) (hk : ∀ u, BF X rest (ρd u) en el (kd u)) : BF X rest ρ en el (bnd (frzM d) kd) := ⟨fun m R E xf h => by
  have self : ∀ {d}, LookAt ρ i x d → ρd d = ρ := fun {d} hl => by
    obtain ⟨h1, _⟩ := (hset d).eq
    rw [h1]
    apply List.ext_getElem?
    intro j
    by_cases hj : i = j
    · subst hj
      rw [List.getElem?_set_self (List.getElem?_eq_some_iff.mp hl.get).1, hl.get]
    · rw [List.getElem?_set_ne hj]
  cases d with
  | ref p =>
    rcases h with ⟨n, ds, hm, h⟩ | ⟨n, ks, ds, hm, h⟩
    · exact s_freeze hm hl (hset _) ((hk _).run _ R E xf h)
    · refine .mk fun F σ H en at_ => ?_
      obtain ⟨F2, s2, q2⟩ := Step.freezeD at_.toAt hm
      exact SSs.step s2 (((hk _).run _ R E xf h).run F2 σ H (look_same (en.mono s2.ex) hl (hset _) q2) (at_.to s2))
  | _ =>
    have := (hk _).run m R E xf h
    rw [self hl] at this
    exact this⟩
/-! xs.append(e) -/
def chkL (d : D) : M Unit := fun m R _ => match d with
  | .ref a => ∃ (n : Nat) (ds : List D), m[n]? = some (a, .lst ds) ∧ R () m
  | _ => False
def appM (d y : D) : M D := fun m R _ => match d with
  | .ref a => ∃ (n : Nat) (ds : List D), m[n]? = some (a, .lst ds) ∧ ds.length < 100000 ∧ R .non (m.set n (a, .lst (ds ++ [y])))
  | _ => False
/-! raise -/
def raiM {α : Type} (nm : Str) (fd : Option (Str × D)) : M α := fun m _ E => E nm fd m
theorem bf_raise0 (G : XK0 P w K mg nm C) (hr : Room 1 X.A) (hX : X.prog = P ∧ X.w = w ∧ X.K = K ∧ X.mg = mg := by exact ⟨rfl, rfl, rfl, rfl⟩) (hc : X.calm = true := by rfl) (hg : Gl X nm := by rfl) (hdb : (nm == ("__debug__" : Str)) = false := by decide) :
    BF X (.Raise (some (.Call (.Name nm p) [] [] pos)) none p2 :: rest) ρ en el (raiM nm none) := ⟨fun m R E xf h => s_cons (c_raise0 G hr (xf ρ _ _ _ h) hX hc hg hdb)⟩
theorem bf_raise1 (G : XK1 P w K mg nm f C) (hr : Room 1 X.A) (he : Ev X e ρ ce) (hX : X.prog = P ∧ X.w = w ∧ X.K = K ∧ X.mg = mg := by exact ⟨rfl, rfl, rfl, rfl⟩) (hc : X.calm = true := by rfl) (hg : Gl X nm := by rfl) (hdb : (nm == ("__debug__" : Str)) = false := by decide)
    (hst : starEach [e] X.env = (false, eval e X.env) :: starEach [] X.env := by rfl) : BF X (.Raise (some (.Call (.Name nm p) [e] [] pos)) none p2 :: rest) ρ en el (bnd ce fun d => raiM nm (some (f, d))) := ⟨fun m R E xf h =>
  s_cons (c_raise1 G hr ((he.run m _ E (xf ρ) h).mono fun d m1 h => xf ρ _ _ _ h) hX hc hg hdb hst)⟩
/-! try: the body is one statement, or ifs of such, so that what is raised finds the names as they are -/
structure BY (X : CD) (sts : List Stmt) (ρ : Rn) {σ τ : Type} (en : σ → Option Rn) (el : τ → Rn) (c : M (Fl σ τ)) : Prop where
  run : ∀ m R E, XA X ρ E → c m R E → SX X sts ρ m (EF en el R)
theorem by_ret (h : Ev X e ρ ce) : BY X (.Return (some e) pos :: rest) ρ en el (bnd ce rtM) := ⟨fun m R E xa k => s_cons (s_ret (h.run m _ E xa k))⟩
/-- the clause's suite returns -/
def noF (t : Empty) : Rn := nomatch t
def upF {σ τ : Type} : Fl Empty Empty → M (Fl σ τ)
  | .rt d => ret (.rt d)
  | _ => bad
def tryM {σ τ : Type} (cls : List (Str × Bool)) (cb : M (Fl σ τ)) (ch : Option (Str × D) → M (Fl Empty Empty)) : M (Fl σ τ) := fun m R E => cb m R (fun nm fd m2 => ∃ b, (nm, b) ∈ cls ∧ (b = true → bnd (ch fd) upF m2 R NoX) ∧ (b = false → E nm fd m2))
/-- e.f in such a suite -/
def exfM (f : Str) (fd : Option (Str × D)) : M D := fun m R _ => ∃ v, fd = some (f, v) ∧ R v m
end

/-! ### defs -/
/-- what a def gives: its own lists of the ledger are forgotten -/
def fnR (m : Led) (R : D → Led → Prop) : Fl Unit Empty → Led → Prop
  | .rt d, m' => R d (m'.take m.length)
  | .nx _, m' => R .non (m'.take m.length)
  | _, _ => False
def fnM (c : M (Fl Unit Empty)) : M D := fun m R E => c m (fnR m R) fun nm fd m' => E nm fd (m'.take m.length)
/-- .. are kept -/
def fnRK (R : D → Led → Prop) : Fl Unit Empty → Led → Prop
  | .rt d, m' => R d m'
  | .nx _, m' => R .non m'
  | _, _ => False
def fnK (c : M (Fl Unit Empty)) : M D := fun m R E => c m (fnRK R) E
def sp1 (f : D → M D) : SpX := fun ds => match ds with
  | [a] => f a
  | _ => bad
def sp2 (f : D → D → M D) : SpX := fun ds => match ds with
  | [a, b] => f a b
  | _ => bad
def sp3 (f : D → D → D → M D) : SpX := fun ds => match ds with
  | [a, b, c] => f a b c
  | _ => bad
def sp4 (f : D → D → D → D → M D) : SpX := fun ds => match ds with
  | [a, b, c, d] => f a b c d
  | _ => bad
def sp5 (f : D → D → D → D → D → M D) : SpX := fun ds => match ds with
  | [a, b, c, d, e] => f a b c d e
  | _ => bad
def sp6 (f : D → D → D → D → D → D → M D) : SpX := fun ds => match ds with
  | [a, b, c, d, e, g] => f a b c d e g
  | _ => bad
def allN (N : List Str) (_ : Unit) : Option Rn := some (N.map fun x => (x, none))
theorem Le.all : ∀ {ρ : Rn} {N : List Str}, ρ.map (·.1) = N → Le (N.map fun x => (x, none)) ρ
  | [], _, h => by subst h; exact .nil
  | (x, o) :: r, _, h => by subst h; exact .drop (Le.all rfl)
section
variable {P : Program} {w : World} {K : Frag} {mg : Str → Option Value} {base : Heap} {x qual : Str} {st : Stmt} {f : Addr} {fd : FuncData} {dvs : List V} {N ps : List Str} {k : Nat}
/-- the context of a def's body -/
abbrev XD (P : Program) (w : World) (K : Frag) (mg : Str → Option Value) (base : Heap) (N : List Str) (qual : Str) (st : Stmt) (f : Addr) (cdv : Value) (A : Around) (outer : List PySem.Env) (s : Shared) (H : Hp) (E : XK) (XR : XR) : CD := ⟨cxOf (L2.CX P w) P w K mg base N qual (defScope st) f cdv A outer s H E, fun nm fd _ m2 => ∃ m3, m3.Sublist m2 ∧ XR nm fd m3⟩
theorem fn_ok {c : List D → M (Fl Unit Empty)} (n : Nat) (hn : ps.length = n) (F : FnD K x qual st dvs f fd) (S : FnScope N ps (defScope st))
    (body : ∀ (cdv : Value) (A : Around) (outer : List PySem.Env) (s : Shared) (H : Hp) (E : XK) (Z : XR), Room k (A.deeper (envOfC qual (defScope st) s.heap.objs.size f cdv)) → ∀ ds, ds.length = n → BF (XD P w K mg base N qual st f cdv A outer s H E Z) (defBody st) (startR N ds) (allN N) noF (c ds)) :
    FnOk P w K mg base (L2.CX P w) (k + 1) f fd ps (liftX K mg fun ds m R E => ds.length = n ∧ fnM (c ds) m R E) := by
  refine def_okD F S (fun ds m R E h => by rw [hn]; exact h.1) ?_
  intro cdv A outer s H E ds m R Z hr ⟨hl, h⟩
  refine ((body cdv A outer s H E Z hr ds hl).run m _ _ (fun ρ nm fd m2 h => ⟨_, List.take_sublist _ _, h⟩) h).mono ?_ ?_ ?_ ?_
  · rintro ρ' m' ⟨u, r, e, l, h⟩
    exact ⟨_, List.take_sublist _ _, h⟩
  · exact fun d m' h => ⟨_, List.take_sublist _ _, h⟩
  · rintro ρ' m' ⟨u, _⟩
    exact nomatch u
  · rintro ρ' m' ⟨u, _⟩
    exact nomatch u
theorem fn_okK {c : List D → M (Fl Unit Empty)} (n : Nat) (hn : ps.length = n) (F : FnD K x qual st dvs f fd) (S : FnScope N ps (defScope st))
    (body : ∀ (cdv : Value) (A : Around) (outer : List PySem.Env) (s : Shared) (H : Hp) (E : XK) (Z : XR), Room k (A.deeper (envOfC qual (defScope st) s.heap.objs.size f cdv)) → ∀ ds, ds.length = n → BF (XD P w K mg base N qual st f cdv A outer s H E Z) (defBody st) (startR N ds) (allN N) noF (c ds)) :
    FnOk P w K mg base (L2.CX P w) (k + 1) f fd ps (liftX K mg fun ds m R E => ds.length = n ∧ fnK (c ds) m R E) := by
  refine def_okD F S (fun ds m R E h => by rw [hn]; exact h.1) ?_
  intro cdv A outer s H E ds m R Z hr ⟨hl, h⟩
  refine ((body cdv A outer s H E Z hr ds hl).run m _ _ (fun ρ nm fd m2 h => ⟨_, List.Sublist.refl _, h⟩) h).mono ?_ ?_ ?_ ?_
  · rintro ρ' m' ⟨u, r, e, l, h⟩
    exact ⟨_, List.Sublist.refl _, h⟩
  · exact fun d m' h => ⟨_, List.Sublist.refl _, h⟩
  · rintro ρ' m' ⟨u, _⟩
    exact nomatch u
  · rintro ρ' m' ⟨u, _⟩
    exact nomatch u
theorem liftX_mono {sp sp' : SpX} (h : ∀ ds m R E, sp' ds m R E → sp ds m R E) (ok : FnOk P w K mg base (L2.CX P w) k f fd ps (liftX K mg sp)) : FnOk P w K mg base (L2.CX P w) k f fd ps (liftX K mg sp') :=
  ok.imp fun vs H Q E ⟨F, m, ds, R, XR, h1, h2, h3, h4⟩ => ⟨F, m, ds, R, XR, h1, h2, h _ _ _ _ h3, h4⟩
theorem fn1 {cf : D → M (Fl Unit Empty)} (F : FnD K x qual st dvs f fd) (S : FnScope N ps (defScope st))
    (body : ∀ (cdv : Value) (A : Around) (outer : List PySem.Env) (s : Shared) (H : Hp) (E : XK) (Z : XR), Room k (A.deeper (envOfC qual (defScope st) s.heap.objs.size f cdv)) → ∀ a, BF (XD P w K mg base N qual st f cdv A outer s H E Z) (defBody st) (startR N [a]) (allN N) noF (cf a)) (hn : ps.length = 1 := by rfl) :
    FnOk P w K mg base (L2.CX P w) (k + 1) f fd ps (liftX K mg (sp1 fun a => fnM (cf a))) := by
  refine liftX_mono (fun ds m R E h => ?_) (fn_ok (c := fun ds => match ds with | [a] => cf a | _ => bad) 1 hn F S fun cdv A outer s H E Z hr ds hl => ?_)
  · match ds, h with
    | [a], h => exact ⟨rfl, h⟩
  · match ds, hl with
    | [a], _ => exact body cdv A outer s H E Z hr a
theorem fk1 {cf : D → M (Fl Unit Empty)} (F : FnD K x qual st dvs f fd) (S : FnScope N ps (defScope st))
    (body : ∀ (cdv : Value) (A : Around) (outer : List PySem.Env) (s : Shared) (H : Hp) (E : XK) (Z : XR), Room k (A.deeper (envOfC qual (defScope st) s.heap.objs.size f cdv)) → ∀ a, BF (XD P w K mg base N qual st f cdv A outer s H E Z) (defBody st) (startR N [a]) (allN N) noF (cf a)) (hn : ps.length = 1 := by rfl) :
    FnOk P w K mg base (L2.CX P w) (k + 1) f fd ps (liftX K mg (sp1 fun a => fnK (cf a))) := by
  refine liftX_mono (fun ds m R E h => ?_) (fn_okK (c := fun ds => match ds with | [a] => cf a | _ => bad) 1 hn F S fun cdv A outer s H E Z hr ds hl => ?_)
  · match ds, h with
    | [a], h => exact ⟨rfl, h⟩
  · match ds, hl with
    | [a], _ => exact body cdv A outer s H E Z hr a
theorem fn2 {cf : D → D → M (Fl Unit Empty)} (F : FnD K x qual st dvs f fd) (S : FnScope N ps (defScope st))
    (body : ∀ (cdv : Value) (A : Around) (outer : List PySem.Env) (s : Shared) (H : Hp) (E : XK) (Z : XR), Room k (A.deeper (envOfC qual (defScope st) s.heap.objs.size f cdv)) → ∀ a b, BF (XD P w K mg base N qual st f cdv A outer s H E Z) (defBody st) (startR N [a, b]) (allN N) noF (cf a b)) (hn : ps.length = 2 := by rfl) :
    FnOk P w K mg base (L2.CX P w) (k + 1) f fd ps (liftX K mg (sp2 fun a b => fnM (cf a b))) := by
  refine liftX_mono (fun ds m R E h => ?_) (fn_ok (c := fun ds => match ds with | [a, b] => cf a b | _ => bad) 2 hn F S fun cdv A outer s H E Z hr ds hl => ?_)
  · match ds, h with
    | [a, b], h => exact ⟨rfl, h⟩
  · match ds, hl with
    | [a, b], _ => exact body cdv A outer s H E Z hr a b
theorem fn3 {cf : D → D → D → M (Fl Unit Empty)} (F : FnD K x qual st dvs f fd) (S : FnScope N ps (defScope st))
    (body : ∀ (cdv : Value) (A : Around) (outer : List PySem.Env) (s : Shared) (H : Hp) (E : XK) (Z : XR), Room k (A.deeper (envOfC qual (defScope st) s.heap.objs.size f cdv)) → ∀ a b c, BF (XD P w K mg base N qual st f cdv A outer s H E Z) (defBody st) (startR N [a, b, c]) (allN N) noF (cf a b c)) (hn : ps.length = 3 := by rfl) :
    FnOk P w K mg base (L2.CX P w) (k + 1) f fd ps (liftX K mg (sp3 fun a b c => fnM (cf a b c))) := by
  refine liftX_mono (fun ds m R E h => ?_) (fn_ok (c := fun ds => match ds with | [a, b, c] => cf a b c | _ => bad) 3 hn F S fun cdv A outer s H E Z hr ds hl => ?_)
  · match ds, h with
    | [a, b, c], h => exact ⟨rfl, h⟩
  · match ds, hl with
    | [a, b, c], _ => exact body cdv A outer s H E Z hr a b c
theorem fk3 {cf : D → D → D → M (Fl Unit Empty)} (F : FnD K x qual st dvs f fd) (S : FnScope N ps (defScope st))
    (body : ∀ (cdv : Value) (A : Around) (outer : List PySem.Env) (s : Shared) (H : Hp) (E : XK) (Z : XR), Room k (A.deeper (envOfC qual (defScope st) s.heap.objs.size f cdv)) → ∀ a b c, BF (XD P w K mg base N qual st f cdv A outer s H E Z) (defBody st) (startR N [a, b, c]) (allN N) noF (cf a b c)) (hn : ps.length = 3 := by rfl) :
    FnOk P w K mg base (L2.CX P w) (k + 1) f fd ps (liftX K mg (sp3 fun a b c => fnK (cf a b c))) := by
  refine liftX_mono (fun ds m R E h => ?_) (fn_okK (c := fun ds => match ds with | [a, b, c] => cf a b c | _ => bad) 3 hn F S fun cdv A outer s H E Z hr ds hl => ?_)
  · match ds, h with
    | [a, b, c], h => exact ⟨rfl, h⟩
  · match ds, hl with
    | [a, b, c], _ => exact body cdv A outer s H E Z hr a b c
/-- the law's own def: nothing is raised -/
abbrev XL (P : Program) (w : World) (K : Frag) (mg : Str → Option Value) (base : Heap) (N : List Str) (qual : Str) (st : Stmt) (f : Addr) (cdv : Value) (A : Around) (outer : List PySem.Env) (s : Shared) (H : Hp) : CD := ⟨(cxOf CX0 P w K mg base N qual (defScope st) f cdv A outer s H E0).nox, fun _ _ _ _ => False⟩
theorem fn_law {cf : D → M (Fl Unit Empty)} (F : Fun K x qual st f fd) (S : FnScope N ps (defScope st))
    (body : ∀ (cdv : Value) (A : Around) (outer : List PySem.Env) (s : Shared) (H : Hp), Room k (A.deeper (envOfC qual (defScope st) s.heap.objs.size f cdv)) → ∀ a, BF (XL P w K mg base N qual st f cdv A outer s H) (defBody st) (startR N [a]) (allN N) noF (cf a)) (hn : ps.length = 1 := by rfl) :
    FnOk P w K mg base CX0 (k + 1) f fd ps (lift K fun ds m R => sp1 (fun a => fnM (cf a)) ds m R NoX) := by
  refine def_ok F S (fun ds m R h => ?_) ?_
  · rw [hn]
    match ds, h with
    | [a], _ => rfl
  · intro cdv A outer s H ds m R hr h
    match ds, h with
    | [a], h =>
      refine ((body cdv A outer s H hr a).run m _ NoX (fun _ _ _ _ z => z) h).mono ?_ ?_ ?_ ?_
      · rintro ρ' m' ⟨u, r, e, l, h⟩
        exact ⟨_, List.take_sublist _ _, h⟩
      · exact fun d m' h => ⟨_, List.take_sublist _ _, h⟩
      · rintro ρ' m' ⟨u, _⟩
        exact nomatch u
      · rintro ρ' m' ⟨u, _⟩
        exact nomatch u
/-- a def called within an except suite -/
abbrev XH (P : Program) (w : World) (K : Frag) (mg : Str → Option Value) (base : Heap) (N : List Str) (qual : Str) (st : Stmt) (f : Addr) (cdv : Value) (A : Around) (outer : List PySem.Env) (s : Shared) (H : Hp) (p : Addr × Obj) : CD := ⟨(L2H.cxH CX0 P w K mg base N qual (defScope st) f cdv A outer s H E0 p).nox, fun _ _ _ _ => False⟩
end
end DL


namespace DL
open PySem PySem.Spec PySem.Calls PySem.W PyProof.Rows L2 RZ

/-! ### the end: what the top has left, put together -/
section
variable {P : Program} {w : World} {K : Frag} {mg : Str → Option Value} {base : Heap} {x qual : Str} {st : Stmt} {f : Addr} {fd : FuncData} {dvs : List V} {ps : List Str} {k n : Nat} {sp : SpX}
theorem knows0 (ok : FnOk P w K mg base (L2.CX P w) k f fd ps (liftX K mg sp)) (hm : mg x = some (.ref f)) (hk : keepIn K (.ref f) = true) (hb : Binds K fd ps []) (hl : ps.length = n := by rfl) : KnowsX P w K mg base k x n [] sp :=
  ⟨f, fd, ps, [], [], ok, hm, hk, hb, .nil, fun _ => .nil, hl⟩
theorem KnowsP.mono {spd : SpD} {j : Nat} (h : KnowsP P w K mg base k x n spd) (hj : k ≤ j) : KnowsP P w K mg base j x n spd := by
  obtain ⟨f, fd, ps, FR, r⟩ := h.fn
  exact ⟨f, fd, ps, fun A outer s H args us vs Q E p hr => FR A outer s H args us vs Q E p (hr.mono hj), r⟩
/-- a def with a closure (an __init__ that says super()) -/
abbrev fnC (name qual : Str) (st : Stmt) (cc cda : Addr) (kV doc pm : Value) (an : Option Addr) (ct : Value) : FuncData :=
  { name, qualname := qual, params := defArgs st, body := .stmts (defBody st), scope := defScope st, globals := mainGlobals, closure := [(("__class__" : Str), cc)], defaults := .none, kwdefaults := kV, doc, pyModule := pm, annotations := an, code := .ref cda, closureTuple := ct, builtins := builtinsNs }
theorem xin_mk {C fI cc cda N : Addr} {q nm qq : Str} {bs bm : List Value} {sn : List Str} {sub : List Value} {ab : Bool} {col : Option Bool} {dd : Option Addr} {k0 k1 k2 k3 k5 : Option Value} {kV doc pm ct oc ccl cl : Value} {an od cdd cld : Option Addr} {osl ccs csl : Array (Option Value)} {vs : Array Value} {file : Str} {tf : Tok}
    (lx : K.lookup C = some (excClassObj nm qq C N bs bm true sn sub ab col dd k0 k1 k2 k3 k5 "ValueError.__new__")) (rx : PySem.HandSPX.refsVE bm = true) (sx : findIn K (.ref C) "__setattr__" = some (some (.builtin "object.__setattr__")))
    (bx : subIn K (.ref C) (.type "BaseException") = some true) (tx : typeIn K (.ref C) = some (.type "type")) (kx : keepIn K (.ref C) = true) (ix : findIn K (.ref C) "__init__" = some (some (.ref fI))) (ux : typeIn K (.ref fI) = some (.type "function"))
    (fx : K.lookup fI = some ⟨oc, od, .func (fnC "__init__" q st cc cda kV doc pm an ct), osl⟩) (cx : codeIn K (.ref cda) q = true) (dx : K.lookup cda = some ⟨ccl, cdd, .fields vs, ccs⟩) (d2 : vs[2]? = some (.str file tf)) (d3 : ((P.main.file : Str) == file) = true)
    (ex : K.lookup cc = some ⟨cl, cld, .cell (some (.ref C)), csl⟩) (px : ks_superIn K C C "__init__" = some (some (.builtin "ValueError.__init__"))) (mx : mroIn K C (.ref C) = some true) (vx : subIn K (.ref C) (.type "ValueError") = some true)
    (qx : nsIn K cStatics "thirdparty.any" = some none) (ox : excInitIn K C [.type "ValueError", .type "Exception", .type "BaseException", .type "object"] "ValueError.__new__" = true) (zs : mg "super" = none) (tp : (P.main.scope.names.lookup ("super" : Str)).isSome = false) :
    XIn P K mg C fI cc cda q (fnC "__init__" q st cc cda kV doc pm an ct) :=
  { T := ⟨⟨nm, qq, N, bs, bm, sn, sub, ab, col, dd, k0, k1, k2, k3, k5, lx, rx⟩, sx, bx, tx, kx⟩, iC := ix, tI := ux, lf := ⟨oc, od, osl, fx⟩, lc := cx, fq := rfl, fc := rfl, fl := rfl, fg := rfl, fb := rfl, hcode := ⟨ccl, cdd, vs, ccs, file, tf, dx, d2, d3⟩, hcell := ⟨cl, cld, csl, ex⟩, sup := px, sub := mx, sVE := vx, opq := qx, exi := ox, mgs := zs, top := tp }
end
end DL


namespace DL
open PySem PySem.Spec PySem.Calls PyProof.Rows L2 RZ

/-! ### instances -/
def attM (cn f : Str) (d : D) : M D := fun m R _ => ∃ ns vs v, ObjV m d cn ns vs ∧ lookF ns vs f = some v ∧ R v m
def stF (cn f : Str) (o v : D) : M Unit := fun m R _ => match o with
  | .ref a => ∃ (n : Nat) (dx : Addr) (ns : List Str) (vs : List D), m[n]? = some (a, .ins cn dx ns vs) ∧ ns.length < 1000 ∧ R () (m.set n (a, .ins cn dx (putN ns f) (putV ns vs f v)))
  | _ => False
def chkO (cn mt : Str) (o : D) : M Unit := fun m R _ => ∃ ns vs, ObjV m o cn ns vs ∧ mt ∉ ns ∧ R () m
def ixO (cn : Str) (sp : SpX) (x y : D) : M D := fun m R E => (∃ ns vs, ObjV m x cn ns vs ∧ sp [x, y] m R E) ∨ ixM x y m R E
/-- while it is read, a dict of the ledger stands as a frozen one -/
def thawM (d : D) (c : D → M D) : M D := fun m R E => match d with
  | .ref a => ∃ (n : Nat) (ks : List (List Int)) (ds : List D), m[n]? = some (a, .dI ks ds) ∧ c (.dI ks ds) (m.eraseIdx n) (fun r m2 => noD r = true ∧ noDL m2 ∧ R r (m2 ++ [(a, .dI ks ds)])) NoX
  | d => c d m R NoX
section
variable {X : CD} {e o a b cc it : Expr} {es : List Expr} {rest : List Stmt} {ρ ρ' : Rn} {p p2 pos pos2 apos cpos pos' : Pos} {c ca cb ce co : M D} {cs : M (List D)} {ct : M Bool} {cn mt f x : Str} {k n i : Nat} {sp : SpX} {mg : Str → Option Value} {P : Program} {w : World} {K : Frag} {base : Heap} {σ τ : Type} {en : σ → Option Rn} {el : τ → Rn} {kk : M (Fl σ τ)} {d : D}
theorem ev_make (G : KnowsC P w K mg base k cn n sp) (hr : Room (k + 1) X.A) (h : EvA X (e :: es) ρ cs) (hX : X.prog = P ∧ X.w = w ∧ X.K = K ∧ X.mg = mg ∧ X.base = base := by exact ⟨rfl, rfl, rfl, rfl, rfl⟩) (hg : Gl X cn := by rfl)
    (hdb : (cn == ("__debug__" : Str)) = false := by decide) (he : starEach (e :: es) X.env = (false, eval e X.env) :: starEach es X.env := by rfl) (hpl : (backTo pos (starEach es X.env)).any (·.1) = false := by rfl) :
    Ev X (.Call (.Name cn p) (e :: es) [] pos) ρ (bnd cs (makeM cn sp)) := ⟨fun m R E xa h1 => by
  obtain ⟨rfl, rfl, rfl, rfl, rfl⟩ := hX
  exact x_make G hr xa (h.run m _ E xa h1) hg hdb he hpl⟩
theorem ev_att (A : AttF K cn f) (h : Ev X o ρ co) (hX : X.K = K := by rfl) (hb : attributeBase o f X.env (eval o X.env) = eval o X.env := by rfl) : Ev X (.Attribute o f pos) ρ (bnd co (attM cn f)) := ⟨fun m R E xa h1 => by
  subst hX
  exact x_att A ((h.run m _ E xa h1).mono fun d m1 h => h) hb⟩
theorem bf_fld (A : AttF K cn f) (he : Ev X e ρ ce) (ho : Ev X o ρ co) (hk : BF X rest ρ en el kk) (hX : X.K = K := by rfl) (hs : swapsWith e (some (.Attribute o f pos')) pos.line X.env = pure false := by rfl) : BF X (.Assign [.Attribute o f pos'] e pos :: rest) ρ en el (bnd ce fun v => bnd co fun ov => bnd (stF cn f ov v) fun _ => kk) := ⟨fun m R E xf q => by
  subst hX
  refine s_cons (s_fld A ((he.run m _ E (xf ρ) q).mono fun v m1 h => (ho.run m1 _ E (xf ρ) h).mono fun ov m2 h => ?_) hs)
  cases ov <;> try exact h.elim
  obtain ⟨n, dx, ns, vs, h1, h2, h3⟩ := h
  exact ⟨n, _, dx, ns, vs, rfl, h1, h2, hk.run _ R E xf h3⟩⟩
theorem ev_meth {pl : Sem Bool} (G : KnowsM P w K mg base k cn mt n sp) (hr : Room k X.A) (ho : Ev X o ρ co) (h : EvA X (e :: es) ρ cs) (hX : X.prog = P ∧ X.w = w ∧ X.K = K ∧ X.mg = mg ∧ X.base = base := by exact ⟨rfl, rfl, rfl, rfl, rfl⟩)
    (hst : starEach (e :: es) X.env = (false, eval e X.env) :: starEach es X.env := by rfl) (hpl : (backTo pos (starEach es X.env)).any (·.1) = false := by rfl)
    (ht : eval (.Call (.Attribute o mt apos) (e :: es) [] pos) X.env = (do
      let ov ← eval o X.env
      standAt apos.atName
      let (f, first) ← holding [ov] (getMethod ov mt pl)
      callWith pos f first (backTo pos (starEach (e :: es) X.env)) (backToKw pos (keywordEach [] X.env))) := by rfl) : Ev X (.Call (.Attribute o mt apos) (e :: es) [] pos) ρ (bnd co fun u => bnd (chkO cn mt u) fun _ => bnd cs fun ds => sp (u :: ds)) := ⟨fun m R E xa h1 => by
  obtain ⟨rfl, rfl, rfl, rfl, rfl⟩ := hX
  exact x_meth G hr xa ((ho.run m _ E xa h1).mono fun d m1 ⟨ns, vs, h2, h3, h4⟩ => ⟨ns, vs, h2, h3, h.run m1 _ E xa h4⟩) hst hpl ht⟩
theorem ev_meth0 {pl : Sem Bool} (G : KnowsM P w K mg base k cn mt n sp) (hr : Room k X.A) (ho : Ev X o ρ co) (hX : X.prog = P ∧ X.w = w ∧ X.K = K ∧ X.mg = mg ∧ X.base = base := by exact ⟨rfl, rfl, rfl, rfl, rfl⟩)
    (ht : eval (.Call (.Attribute o mt apos) [] [] pos) X.env = (do
      let ov ← eval o X.env
      standAt apos.atName
      let (f, first) ← holding [ov] (getMethod ov mt pl)
      callWith pos f first (backTo pos (starEach [] X.env)) (backToKw pos (keywordEach [] X.env))) := by rfl) : Ev X (.Call (.Attribute o mt apos) [] [] pos) ρ (bnd co fun u => bnd (chkO cn mt u) fun _ => sp [u]) := ⟨fun m R E xa h1 => by
  obtain ⟨rfl, rfl, rfl, rfl, rfl⟩ := hX
  exact x_meth0 G hr xa ((ho.run m _ E xa h1).mono fun d m1 h => h) ht⟩
abbrev FnG (K : Frag) (cn : Str) : Prop := ∀ C f, CnIs K cn C → PySem.W.findIn K (.ref C) "__getitem__" = some (some (.ref f)) → PySem.W.fnIn K f = true
theorem ev_ixO (hu : X.A.units + 64 < cLine) (G : KnowsM P w K mg base k cn "__getitem__" n sp) (hfn : FnG K cn) (hr : Room (k + 1) X.A) (ha : Ev X a ρ ca) (hb : Ev X b ρ cb) (hX : X.prog = P ∧ X.w = w ∧ X.K = K ∧ X.mg = mg ∧ X.base = base := by exact ⟨rfl, rfl, rfl, rfl, rfl⟩)
    (hs : ∀ o i, subscripted b false o i = operate [o, i] (getItem o i) := by intro _ _; rfl) (h2 : ∀ o i, subscripted b true o i = runValue (.builtin "lifetime.subscript" ⟨[o, i], []⟩) := by intro _ _; with_unfolding_all rfl) : Ev X (.Subscript a b pos) ρ (bnd ca fun x => bnd cb fun y => ixO cn sp x y) := ⟨fun m R E xa h => by
  obtain ⟨rfl, rfl, rfl, rfl, rfl⟩ := hX
  refine x_ixE ((ha.run m _ E xa h).mono fun d1 m1 h1 => (hb.run m1 _ E xa h1).mono fun d2 m2 h3 => ?_) hs h2
  rcases h3 with ⟨ns, vs, hv, hh⟩ | h3
  · exact i_own G hfn hr xa hv hh
  · exact (ixM_ok hu h3).toE⟩
/-! stars, chains, ranges as values -/
def starL (d : D) : M (List D) := fun m R _ => ∃ ds, (LstV m d ds ∨ d = .tup ds) ∧ R ds m
theorem eva_star (h1 : Ev X e ρ c) (h2 : EvA X es ρ cs) (hs : starEach (.Starred e p :: es) X.env = (true, eval e X.env) :: starEach es X.env := by rfl) : EvA X (.Starred e p :: es) ρ (bnd c fun d => bnd (starL d) fun ds => bnd cs fun ds' => ret (ds ++ ds')) := ⟨fun m R E xa h =>
  a_star ((h1.run m _ E xa h).mono fun d m1 ⟨ds, hd, h⟩ => ⟨ds, hd, (h2.run m1 _ E xa h).mono fun ds' m2 h => h⟩) hs⟩
def chainM (op' : CmpOp) (y : D) (c : M D) (k : Bool) : M D := iteM k (bnd c fun z => cmpM op' y z) (ret (.bl false))
def lrgG (b : Bool) (d : D) : M D := fun m R _ => match d with
  | .int j => -100000 ≤ j ∧ j ≤ 100000 ∧ RNewL R m (rangeD 0 j.toNat) b
  | _ => False
def trgM (d : D) : M D := fun m R _ => match d with
  | .int j => -100000 ≤ j ∧ j ≤ 100000 ∧ R (.tup (rangeD 0 j.toNat)) m
  | _ => False
theorem ev_listRg {bb : Bool} (hml : mg "list" = none) (hmr : mg "range" = none) (ha : Ev X a ρ ca) (hX : X.mg = mg := by rfl) (hc : X.calm = true := by rfl) (hg : Gl X "list" := by rfl) (hg2 : Gl X "range" := by rfl) (hs : starEach [a] X.env = (false, eval a X.env) :: starEach [] X.env := by rfl)
    (hs2 : starEach [.Call (.Name "range" p2) [a] [] pos2] X.env = (false, eval (.Call (.Name "range" p2) [a] [] pos2) X.env) :: starEach [] X.env := by rfl) : Ev X (.Call (.Name "list" p) [.Call (.Name "range" p2) [a] [] pos2] [] pos) ρ (bnd ca (lrgG bb)) := ⟨fun m R E xa h => by
  subst hX
  refine x_listRg (b := bb) hml hmr ((ha.run m _ E xa h).mono fun d m1 h => ?_) hc hg hg2 hs hs2
  cases d <;> try exact h.elim
  exact ⟨_, rfl, h⟩⟩
theorem ev_tupRg (hml : mg "tuple" = none) (hmr : mg "range" = none) (ha : Ev X a ρ ca) (hX : X.mg = mg := by rfl) (hc : X.calm = true := by rfl) (hg : Gl X "tuple" := by rfl) (hg2 : Gl X "range" := by rfl) (hs : starEach [a] X.env = (false, eval a X.env) :: starEach [] X.env := by rfl)
    (hs2 : starEach [.Call (.Name "range" p2) [a] [] pos2] X.env = (false, eval (.Call (.Name "range" p2) [a] [] pos2) X.env) :: starEach [] X.env := by rfl) : Ev X (.Call (.Name "tuple" p) [.Call (.Name "range" p2) [a] [] pos2] [] pos) ρ (bnd ca trgM) := ⟨fun m R E xa h => by
  subst hX
  refine x_tupRg hml hmr ((ha.run m _ E xa h).mono fun d m1 h => ?_) hc hg hg2 hs hs2
  cases d <;> try exact h.elim
  exact ⟨_, rfl, h⟩⟩
/-! a dict of the ledger walked -/
theorem ev_thaw {cf : D → M D} {ρd : D → Rn} (hl : LookAt ρ i x d) (hset : ∀ u, SetAt ρ i x u (ρd u)) (h : ∀ u, Ev X e (ρd u) (cf u)) : Ev X e ρ (thawM d cf) := ⟨fun m R E xa hh => by
  have self : ∀ {d}, LookAt ρ i x d → ρd d = ρ := fun {d} hl => by
    obtain ⟨h1, _⟩ := (hset d).eq
    rw [h1]
    apply List.ext_getElem?
    intro j
    by_cases hj : i = j
    · subst hj
      rw [List.getElem?_set_self (List.getElem?_eq_some_iff.mp hl.get).1, hl.get]
    · rw [List.getElem?_set_ne hj]
  cases d with
  | ref q =>
    obtain ⟨n, ks, ds, hm, hh⟩ := hh
    exact x_thaw hm hl (hset _) ((h _).run _ _ NoX (fun _ _ _ z => z.elim) hh)
  | _ =>
    have := (h _).run m R NoX (fun _ _ _ z => z.elim) hh
    rw [self hl] at this
    exact this⟩
end
end DL


namespace DL
open PySem PySem.Spec PySem.Calls PyProof.Rows L2 RZ

/-! ### dict comprehensions -/
def dcM (f : D → M (Option (D × D))) : List D → List (List Int) → List D → M (List (List Int) × List D)
  | [], ks, vs => ret (ks, vs)
  | d :: ds, ks, vs => fun m R E => f d m (fun o m' => match o with
    | some (k, v) => PutD ks vs k v fun ks vs => dcM f ds ks vs m' R E
    | none => dcM f ds ks vs m' R E) NoX
def dicG (b : Bool) (q : List (List Int) × List D) : M D := fun m R _ => RNew R m q.1 q.2 b
def pairM (k v : D) : M (Option (D × D)) := ret (some (k, v))
section
variable {X : CD} {kx vx it t o e : Expr} {scope : Scope} {ifs : List Expr} {ρ : Rn} {pos py apos cpos : Pos} {y x : Str} {j k n i : Nat} {ci : M (List D)} {f : D → M (Option (D × D))} {ck cv : D → M D} {ct : D → M Bool} {ρ2 : D → Rn} {ce co : M D}
structure CvD (X : CD) (scope : Scope) (ifs : List Expr) (kx vx : Expr) (y : Str) (j : Nat) (ρ : Rn) (f : D → M (Option (D × D))) : Prop where
  run : ∀ (d : D) (m : Led) (R : Option (D × D) → Led → Prop), f d m R NoX → ∃ ρ2, SetAt ρ j y d ρ2 ∧ ∀ (s : Shared) (H0 : Hp) (C : Addr) (cl : List (Str × Addr)) (fp : List Addr),
    match ifs with
    | [] => EX (X.blk s H0 scope (compEnvC scope cl C X.env) fp) kx ρ2 m fun k m2 => ∀ (s : Shared) (H0 : Hp) (C : Addr) (cl : List (Str × Addr)) (fp : List Addr), EX (X.blk s H0 scope (compEnvC scope cl C X.env) fp) vx ρ2 m2 fun v m3 => R (some (k, v)) m3
    | [c] => TX (X.blk s H0 scope (compEnvC scope cl C X.env) fp) c ρ2 m fun b m1 => (b = true → ∀ (s : Shared) (H0 : Hp) (C : Addr) (cl : List (Str × Addr)) (fp : List Addr), EX (X.blk s H0 scope (compEnvC scope cl C X.env) fp) kx ρ2 m1 fun k m2 => ∀ (s : Shared) (H0 : Hp) (C : Addr) (cl : List (Str × Addr)) (fp : List Addr), EX (X.blk s H0 scope (compEnvC scope cl C X.env) fp) vx ρ2 m2 fun v m3 => R (some (k, v)) m3) ∧ (b = false → R none m1)
    | _ => False
theorem cvd0 (hset : ∀ d, SetAt ρ j y d (ρ2 d)) (hk : ∀ d s H0 C cl fp, Ev (X.blk s H0 scope (compEnvC scope cl C X.env) fp) kx (ρ2 d) (ck d)) (hv : ∀ d s H0 C cl fp, Ev (X.blk s H0 scope (compEnvC scope cl C X.env) fp) vx (ρ2 d) (cv d)) : CvD X scope [] kx vx y j ρ fun d => bnd (ck d) fun k => bnd (cv d) fun v => pairM k v :=
  ⟨fun d m R h => ⟨ρ2 d, hset d, fun s H0 C cl fp => ((hk d s H0 C cl fp).run m _ NoX (fun _ _ _ z => z) h).mono fun k m2 h s H0 C cl fp => (hv d s H0 C cl fp).run m2 _ NoX (fun _ _ _ z => z) h⟩⟩
theorem CvD.I (hc : CvD X scope ifs kx vx y j ρ f) {ds : List D} {m : Led} {R : List (List Int) × List D → Led → Prop} {E : XR} (h : dcM f ds [] [] m R E) : CompD X scope ifs kx vx y j ρ (fun ks vs m' => R (ks, vs) m') ds m := by
  refine ⟨fun i ks vs m' => dcM f (ds.drop i) ks vs m' R E, h, fun i d ks vs m' hd hI => ?_, fun ks vs m' hI => ?_⟩
  · dsimp only at hI
    rw [drop_at hd] at hI
    obtain ⟨ρ2, h1, h2⟩ := hc.run d m' _ hI
    refine ⟨ρ2, h1, fun s H0 C cl fp => ?_⟩
    have h5 := h2 s H0 C cl fp
    rcases ifs with _ | ⟨c, _ | ⟨_, _⟩⟩ <;> exact h5
  · dsimp only at hI
    rw [List.drop_length] at hI
    exact hI
theorem CompD.mono {R R' : List (List Int) → List D → Led → Prop} {ds : List D} {m : Led} (h : CompD X scope ifs kx vx y j ρ R ds m) (q : ∀ ks vs m', R ks vs m' → R' ks vs m') : CompD X scope ifs kx vx y j ρ R' ds m := let ⟨I, a, b, c⟩ := h; ⟨I, a, b, fun ks vs m' z => q _ _ _ (c ks vs m' z)⟩
theorem ev_dc {bb : Bool} (hu : X.A.units + 64 < cLine) (hj : SlotAt ρ j y) (hi : Iv X (.Name y py) it ρ ci) (hcv : CvD X scope ifs kx vx y j ρ f) (hl1 : ifs.length ≤ 1 := by decide) (hok : blkC X.N X.env.scope scope [(y, j)] = true := by kernel_rfl)
    (hx : ∀ cl C, Loc (compEnvC scope cl C X.env).scope y := by intro _ _; first | exact Or.inl rfl | exact Or.inr rfl) (hf : ∀ cl C, (scope.names.lookup y == some .cell) = true ∨ (compEnvC scope cl C X.env).scope.names.lookup y = some .local := by intro _ _; first | exact .inl rfl | exact .inr rfl)
    (hc : X.calm = true := by rfl) (hs : ∀ x, foldedSetIterable it X.env x = pure x := by intro _; rfl) : Ev X (.DictComp kx vx [⟨.Name y py, it, ifs, 0⟩] scope pos) ρ (bnd ci fun ds => bnd (dcM f ds [] []) (dicG bb)) := ⟨fun m R E xa h =>
  x_dc (b := bb) hu hj ((hi.run m _ E xa h).mono fun ds m1 h => (hcv.I h).mono fun ks vs m' h => h) hl1 hok hx hf hc hs⟩
/-! xs.pop(i) -/
def popM (d y : D) : M D := fun m R _ => match d, y with
  | .ref a, .int i => ∃ (n : Nat) (ds : List D) (j : Nat) (v : D), m[n]? = some (a, .lst ds) ∧ ds.length ≤ 100000 ∧ ixN ds.length i = some j ∧ ds[j]? = some v ∧ R v (m.set n (a, .lst (ds.eraseIdx j)))
  | _, _ => False
theorem Dens.eraseIdx {K : Frag} {F : Hp} : ∀ {vs : List V} {ds : List D} (i : Nat), Dens K F vs ds → Dens K F (vs.eraseIdx i) (ds.eraseIdx i)
  | _, _, _, .nil => .nil
  | _, _, 0, .cons _ t => t
  | _, _, i + 1, .cons q t => .cons q (Dens.eraseIdx i t)
end
end DL
namespace DL
open PySem PySem.Spec PySem.Calls PyProof.Rows L2 RZ
section
variable {X : CD} {a bb c : Expr} {ρ : Rn} {m : Led} {pos : Pos} {ca cb cc : M D}
theorem t_chain {op op' : CmpOp} {R : Bool → Led → Prop} (h : EX X a ρ m fun d1 m1 => EX X bb ρ m1 fun d2 m2 => OX X (compareOp op) d1 d2 m2 fun z m3 => ∃ k, z = .bl k ∧ (k = true → EX X c ρ m3 fun d3 m4 => OX X (compareOp op') d2 d3 m4 fun z m5 => ∃ k, z = .bl k ∧ R k m5) ∧ (k = false → R false m3)) (hm : lastMarks [op, op'] [bb, c] = false) : TX X (.Compare a [op, op'] [bb, c] pos) ρ m R := .mk fun F σ H en at_ => by
  intro pins s I
  refine isTrue_chain (thn (h.run F σ H en at_ pins s I) fun v s1 ⟨x, H1, I1, r1, d1, F1, m1, st1, q1, h1⟩ => test_link (thn (h1.run F1 σ H1 (en.mono st1.ex) (at_.to st1) pins s1 I1) fun u s2 ⟨y, H2, I2, r2, d2, F2, m2, st2, q2, h2⟩ =>
    thn (h2.run F2 σ H2 x y pins s2 v u (q1.mono st2.ex) q2 (at_.to (st1.trans st2)) I2 r1 r2) fun dd s3 ⟨z, H3, I3, r3, d3, F3, m3, st3, q3, k, ek, kt, kf⟩ => ?_)) hm
  subst ek
  cases q3
  cases r3
  refine wpAny_truthy_bool ?_
  have st := (st1.trans st2).trans st3
  cases k with
  | false => exact ite_ff ⟨H3, I3, ⟨F3, m3, st, kf rfl⟩⟩
  | true =>
    refine ite_tt (test_last (thn ((kt rfl).run F3 σ H3 (en.mono st.ex) (at_.to st) pins s3 I3) fun w' s4 ⟨z', H4, I4, r4, d4, F4, m4, st4, q4, h4⟩ =>
      thn (h4.run F4 σ H4 y z' pins s4 u w' (q2.mono (st3.ex.trans st4.ex)) q4 (at_.to (st.trans st4)) I4 r2 r4) fun w5 s5 ⟨v5, H5, I5, r5, d5, F5, m5, st5, q5, k2, e2, kk⟩ => ?_))
    subst e2
    cases q5
    cases r5
    exact wpAny_truthy_bool ⟨H5, I5, ⟨F5, m5, (st.trans st4).trans st5, kk⟩⟩
def chainB (op' : CmpOp) (y : D) (c : M D) (k : Bool) : M Bool := iteM k (bnd c fun z => cmpB op' y z) (ret false)
theorem tv_chain {op op' : CmpOp} (hu : X.A.units + 64 < cLine) (ha : Ev X a ρ ca) (hb : Ev X bb ρ cb) (hc : Ev X c ρ cc) (hm : lastMarks [op, op'] [bb, c] = false := by with_unfolding_all rfl) : Tv X (.Compare a [op, op'] [bb, c] pos) ρ (bnd ca fun x => bnd cb fun y => bnd (cmpB op x y) (chainB op' y cc)) := ⟨fun m R E xa h =>
  t_chain ((ha.run m _ E xa h).mono fun d1 m1 h1 => (hb.run m1 _ E xa h1).mono fun d2 m2 h2 => (cmpB_ok hu h2).mono fun z m3 ⟨k, ek, h3⟩ => ⟨k, ek, fun e => (hc.run m3 _ E xa (h3.1 e)).mono fun d3 m4 h4 => cmpB_ok hu h4, fun e => h3.2 e⟩) hm⟩
end
end DL


namespace DL
open PySem PySem.Spec PySem.Calls PyProof.Rows L2 RZ

/-! ### several except clauses over data -/
structure ClD where
  x : Str
  nm : Option (Str × Nat)
  sts : List Stmt
abbrev RtD (rt : D → Led → Prop) : EndsD := { nx := fun _ _ => False, rt := rt }
def qN (X : CD) (rt : D → Led → Prop) : List ClD → XQ
  | [] => X.xq
  | c :: r => fun nm fd ρ2 m2 => ∃ b, XM X.K X.mg nm c.x b ∧ (b = true → ∀ a dd oe pn, SuOk X.K X.mg nm fd dd oe → match c.nm with
      | none => SX (X.suite a ((a, oe) :: pn)) c.sts ρ2 m2 (RtD rt)
      | some (n, i) => ∃ ρ3, SetAt ρ2 i n (ExD a fd dd) ρ3 ∧ SX (X.suite a ((a, oe) :: pn)) c.sts ρ3 m2 (RtD rt)) ∧ (b = false → qN X rt r nm fd ρ2 m2)
def toH (X : CD) (c : ClD) : Hdl := ((X.mg c.x).getD .none, c.nm.map (·.2), fun a cls d rt σ H => ∀ oe pn, Zc cls d oe → (∃ vs, oe.data = .fields vs) → SSs (X.toCx.suite a ((a, oe) :: pn)) c.sts (RtE rt) σ H)
inductive HdR (X : CD) : List ExceptHandler → List ClD → Prop
  | nil : HdR X [] []
  | plain {x : Str} {b₀ : Stmt} {suite : List Stmt} {np pos' : Pos} {hds : List ExceptHandler} {l : List ClD} (hc : ∃ Cc, X.mg x = some (.ref Cc)) (hg : Gl X x) (hdb : (x == ("__debug__" : Str)) = false) (r : HdR X hds l) :
      HdR X (.ExceptHandler (some (.Name x np)) none (b₀ :: suite) pos' :: hds) (⟨x, none, b₀ :: suite⟩ :: l)
  | named {x n : Str} {i : Nat} {b₀ : Stmt} {suite : List Stmt} {np pos' : Pos} {hds : List ExceptHandler} {l : List ClD} (hc : ∃ Cc, X.mg x = some (.ref Cc)) (hg : Gl X x) (hdb : (x == ("__debug__" : Str)) = false) (hi : X.N[i]? = some n) (hln : X.env.kindOf n = some .local) (r : HdR X hds l) :
      HdR X (.ExceptHandler (some (.Name x np)) (some n) (b₀ :: suite) pos' :: hds) (⟨x, some (n, i), b₀ :: suite⟩ :: l)
section
variable {X : CD} {body : List Stmt} {ρ : Rn} {m : Led} {E : EndsD} {pos : Pos} {h₀ : ExceptHandler} {hds : List ExceptHandler} {cl : List ClD}
theorem RtE.mono {Z : Cx} {sts : List Stmt} {rt : V → Hp → Prop} {D : Ends} {σ : L2.St} {H : Hp} (h : SSs Z sts (RtE rt) σ H) (k : ∀ v H', rt v H' → D.rt v H') : SSs Z sts D σ H := h.mono (fun _ _ z => z.elim) k (fun _ _ z => z.elim) fun _ _ z => z.elim
theorem HdR.n {hds : List ExceptHandler} : ∀ {cl : List ClD}, HdR X hds cl → HdsN X.toCx hds (cl.map (toH X)) := fun {cl} h => by
  induction h with
  | nil => exact .nil
  | plain hc hg hdb r ih =>
    obtain ⟨Cc, hc⟩ := hc
    exact .plain ⟨hg, hdb, .inl (by rw [hc]; rfl)⟩ (fun a oe cls d pn hz hv => ⟨fun pins s σ H D I ⟨rt, hh, hk⟩ => RtE.mono (hh oe pn hz hv) hk pins s I⟩) ih
  | named hc hg hdb hi hln r ih =>
    obtain ⟨Cc, hc⟩ := hc
    exact .named ⟨hg, hdb, .inl (by rw [hc]; rfl)⟩ hi hln (fun a oe cls d pn hz hv => ⟨fun pins s σ H D I ⟨rt, hh, hk⟩ => RtE.mono (hh oe pn hz hv) hk pins s I⟩) ih
theorem qN_wN {F F2 H H2 : Hp} {m m2 : Led} {σ2 : L2.St} {ρ2 : Rn} {nm : Str} {C : Addr} {fd : Option (Str × D)} {d : Option Addr} (h1 : X.mg nm = some (.ref C)) (h3 : Step X.K F m H F2 m2 H2) (h4 : DL.Env X.toCx F2 σ2 ρ2) (h5 : FdD X.K F2 d fd) (rt : D → Led → Prop) : ∀ {cl : List ClD}, qN X rt cl nm fd ρ2 m2 → wN X.K (WD X.toCx F m H X.xq) (PQ X.K F m H rt) (cl.map (toH X)) (.ref C) d σ2 H2
  | [], h => ⟨nm, C, fd, ρ2, F2, m2, h1, rfl, h3, h4, h5, h⟩
  | c :: r, ⟨b, ⟨C', Cc', e1, e2, e3⟩, hy, hn⟩ => by
    have e1' := e1.symm.trans h1
    cases e1'
    refine ⟨b, ?_, fun hb a na oe pn hz hv => ?_, fun hb => qN_wN h1 h3 h4 h5 rt (hn hb)⟩
    · show PySem.W.exmOne X.K (.ref C) ((X.mg c.x).getD .none) = some b
      rw [e2]
      exact e3
    · obtain ⟨dd, hd, hden⟩ : ∃ dd, d = fd.map (fun _ => dd) ∧ Den X.K F2 (.ref a) (ExD a fd dd) := by
        cases fd with
        | none => exact ⟨0, h5, .ref a⟩
        | some fx =>
          obtain ⟨f, x⟩ := fx
          obtain ⟨dd, v, hd, hF, hq⟩ := h5
          exact ⟨dd, hd, .exc hF hq⟩
      have hs := hy hb a dd oe pn ⟨C, h1, hd ▸ hz, hv⟩
      obtain ⟨x, o, sts⟩ := c
      cases o with
      | none =>
        have r := SSs.step (X := X.suite a ((a, oe) :: pn)) h3 (SX.run hs F2 σ2 H2 h4.cast (.quiet h3.at2))
        exact r.mono (fun _ _ ⟨_, _, _, _, _, z⟩ => z.elim) (fun _ _ q => q) (fun _ _ ⟨_, _, _, _, _, z⟩ => z.elim) fun _ _ ⟨_, _, _, _, _, z⟩ => z.elim
      | some ni =>
        obtain ⟨n, i⟩ := ni
        obtain ⟨ρ3, hset, hsx⟩ := hs
        have en3 : DL.Env X.toCx F2 (σ2.set i (some (.ref a))) ρ3 := h4.set hset hden
        have r := SSs.step (X := X.suite a ((a, oe) :: pn)) h3 (SX.run hsx F2 _ H2 en3.cast (.quiet h3.at2))
        exact r.mono (fun _ _ ⟨_, _, _, _, _, z⟩ => z.elim) (fun _ _ q => q) (fun _ _ ⟨_, _, _, _, _, z⟩ => z.elim) fun _ _ ⟨_, _, _, _, _, z⟩ => z.elim
theorem s_tryN (hd : HdR X (h₀ :: hds) cl) (h : ∀ pn xe, SX (X.tr pn xe (qN X E.rt cl)) body ρ m E) (hs : X.stack = X.env :: X.outer) (hf : X.env.frame = some X.env.locals) : S1 X (.Try body (h₀ :: hds) [] [] pos) ρ m E := .mk fun F σ H en at_ => by
  refine SS.of (ps_tryN (tb := tBody X body) hs hf en.nd at_.tk (fun W pn xe tk po => ⟨fun pins s σ H D I hh => hh pn xe tk po pins s I⟩) hd.n) ?_
  intro pn xe tk po
  have ax : AtX (X.tr pn xe (qN X E.rt cl)) F m H := by
    refine ⟨at_.toAt, tk.imp ?_, po⟩
    intro cls d σ2 H2 ⟨nm, C, fd, ρ2, F2, m2, h1, h2, h3, h4, h5, hq⟩
    subst h2
    exact qN_wN (X := X) h1 h3 h4.cast h5 E.rt hq
  exact SSs.cast (X := X.tr pn xe (qN X E.rt cl)) ((h pn xe).run F σ H en.cast ax)
end
/-! mirrors -/
abbrev Clz := List (List (Str × Bool) × (Option (Str × D) → M (Fl Empty Empty)))
def catchN {σ τ : Type} : Clz → Str → Option (Str × D) → Led → (Fl σ τ → Led → Prop) → XR → Prop
  | [], nm, fd, m, _, E => E nm fd m
  | (cls, ch) :: r, nm, fd, m, R, E => ∃ b, (nm, b) ∈ cls ∧ (b = true → bnd (ch fd) upF m R NoX) ∧ (b = false → catchN r nm fd m R E)
def tryN {σ τ : Type} (cb : M (Fl σ τ)) (hs : Clz) : M (Fl σ τ) := fun m R E => cb m R fun nm fd m2 => catchN hs nm fd m2 R E
inductive HvN (X : CD) (ρ : Rn) : List ExceptHandler → List ClD → Clz → Prop
  | nil : HvN X ρ [] [] []
  | plain {x : Str} {b₀ : Stmt} {suite : List Stmt} {np pos' : Pos} {hds : List ExceptHandler} {l : List ClD} {z : Clz} {cls : List (Str × Bool)} {ch : M (Fl Empty Empty)} (hc : ∃ Cc, X.mg x = some (.ref Cc)) (hX : ∀ q ∈ cls, XM X.K X.mg q.1 x q.2)
      (hh : ∀ a oe pn, BF (X.suite a ((a, oe) :: pn)) (b₀ :: suite) ρ (fun _ : Empty => none) noF ch) (r : HvN X ρ hds l z) (hg : Gl X x := by rfl) (hdb : (x == ("__debug__" : Str)) = false := by decide) :
      HvN X ρ (.ExceptHandler (some (.Name x np)) none (b₀ :: suite) pos' :: hds) (⟨x, none, b₀ :: suite⟩ :: l) ((cls, fun _ => ch) :: z)
  | named {x n : Str} {i : Nat} {b₀ : Stmt} {suite : List Stmt} {np pos' : Pos} {hds : List ExceptHandler} {l : List ClD} {z : Clz} {cls : List (Str × Bool)} {ch : Option (Str × D) → M (Fl Empty Empty)} {ρd : D → Rn} (hc : ∃ Cc, X.mg x = some (.ref Cc)) (hX : ∀ q ∈ cls, XM X.K X.mg q.1 x q.2) (hi : SlotAt ρ i n) (hset : ∀ u, SetAt ρ i n u (ρd u))
      (hh : ∀ nm fd a dd oe pn, (nm, true) ∈ cls → SuOk X.K X.mg nm fd dd oe → BF (X.suite a ((a, oe) :: pn)) (b₀ :: suite) (ρd (ExD a fd dd)) (fun _ : Empty => none) noF (ch fd)) (r : HvN X ρ hds l z) (hln : X.env.kindOf n = some .local := by rfl) (hg : Gl X x := by rfl) (hdb : (x == ("__debug__" : Str)) = false := by decide) :
      HvN X ρ (.ExceptHandler (some (.Name x np)) (some n) (b₀ :: suite) pos' :: hds) (⟨x, some (n, i), b₀ :: suite⟩ :: l) ((cls, ch) :: z)
section
variable {X : CD} {body rest : List Stmt} {ρ : Rn} {pos : Pos} {h₀ : ExceptHandler} {hds : List ExceptHandler} {cl : List ClD} {z : Clz} {σ τ σ1 : Type} {en : σ → Option Rn} {el : τ → Rn} {e1 : σ1 → Rn} {cb : M (Fl σ1 τ)} {k : σ1 → M (Fl σ τ)}
theorem HvN.r (hN : ρ.map (·.1) = X.N) {hds : List ExceptHandler} {cl : List ClD} {z : Clz} (h : HvN X ρ hds cl z) : HdR X hds cl := by
  induction h with
  | nil => exact .nil
  | plain hc hX hh r hg hdb ih => exact .plain hc hg hdb ih
  | named hc hX hi hset hh r hln hg hdb ih => exact .named hc hg hdb (by rw [← hN]; exact hi.ix) hln ih
theorem HvN.q {hds : List ExceptHandler} {cl : List ClD} {z : Clz} (h : HvN X ρ hds cl z) {R : Fl σ1 τ → Led → Prop} {E : XR} (xf : XA X ρ E) {nm : Str} {fd : Option (Str × D)} {m2 : Led} (hq : catchN z nm fd m2 R E) : qN X (fun d m' => R (.rt d) m') cl nm fd ρ m2 := by
  induction h with
  | nil => exact xf _ _ _ hq
  | plain hc hX hh r hg hdb ih =>
    obtain ⟨b, hcl, h1, h2⟩ := hq
    refine ⟨b, hX (nm, b) hcl, fun eb a dd oe pn _ => ?_, fun eb => ih (h2 eb)⟩
    refine ((hh a oe pn).run m2 _ NoX (fun _ _ _ _ z => z.elim) (h1 eb)).mono ?_ ?_ ?_ ?_
    · rintro ρ' m' ⟨s, r, e, l, h⟩
      cases e
    · exact fun d m' h => h
    · rintro ρ' m' ⟨s, l, h⟩
      exact nomatch s
    · rintro ρ' m' ⟨s, l, h⟩
      exact nomatch s
  | named hc hX hi hset hh r hln hg hdb ih =>
    obtain ⟨b, hcl, h1, h2⟩ := hq
    refine ⟨b, hX (nm, b) hcl, fun eb a dd oe pn su => ⟨_, hset _, ?_⟩, fun eb => ih (h2 eb)⟩
    subst eb
    refine ((hh nm fd a dd oe pn hcl su).run m2 _ NoX (fun _ _ _ _ z => z.elim) (h1 rfl)).mono ?_ ?_ ?_ ?_
    · rintro ρ' m' ⟨s, r, e, l, h⟩
      cases e
    · exact fun d m' h => h
    · rintro ρ' m' ⟨s, l, h⟩
      exact nomatch s
    · rintro ρ' m' ⟨s, l, h⟩
      exact nomatch s
theorem bf_tryN (hv : HvN X ρ (h₀ :: hds) cl z) (hb : ∀ pn xe q, BY (X.tr pn xe q) body ρ (fun s => some (e1 s)) el cb) (hk : ∀ s, BF X rest (e1 s) en el (k s)) (hs : X.stack = X.env :: X.outer := by rfl) (hf : X.env.frame = some X.env.locals := by rfl) :
    BF X (.Try body (h₀ :: hds) [] [] pos :: rest) ρ en el (seqF (tryN cb z) k) := ⟨fun m R E xf q => by
  refine s_cons (.mk fun F σ H en0 at_ => (s_tryN (hv.r en0.nm) (fun pn xe => ?_) hs hf).run F σ H en0 at_)
  refine ((hb pn xe _).run m _ _ (fun nm fd m2 h => ?_) q).mono ?_ ?_ ?_ ?_
  · exact hv.q (R := fun d m' => seqK k d m' R E) (xf ρ) h
  · rintro ρ' m' ⟨s, r, e, l, h⟩
    cases e
    exact ((hk s).run m' R E xf h).le l
  · exact fun d m' h => h
  · exact fun ρ' m' h => h
  · exact fun ρ' m' h => h⟩
end
end DL


namespace DL
open PySem PySem.Spec PySem.Calls PyProof.Rows L2 RZ

/-! ### a list of the ledger walked, the whole ledger being frozen for it -/
def stillM (d : D) (c : D → M D) : M D := fun m R E => match d with
  | .ref a => ∃ (n : Nat) (ds : List D), m[n]? = some (a, .lst ds) ∧ c (.lst ds) [] (fun r m2 => noL r = true ∧ m2 = [] ∧ R r m) NoX
  | d => c d m R NoX
section
variable {X : CD} {e : Expr} {ρ : Rn} {x : Str} {i : Nat} {d : D}
end
end DL


namespace DL
open PySem PySem.Spec PySem.Calls PyProof.Rows L2 RZ

/-! ### operators of own classes -/
def binO (cn : Str) (sp : SpX) (op : Operator) (x y : D) : M D := fun m R E => (∃ ns vs ns2 vs2, ObjV m x cn ns vs ∧ ObjV m y cn ns2 vs2 ∧ sp [x, y] m R E) ∨ binM op x y m R E
def binI (cn : Str) (sp : SpX) (op : Operator) (x y : D) : M D := fun m R E => (∃ ns vs i, ObjV m x cn ns vs ∧ y = .int i ∧ sp [x, y] m R E) ∨ binM op x y m R E
def unO (cn : Str) (sp : SpX) (op : UnaryOp) (x : D) : M D := fun m R E => (∃ ns vs, op = .USub ∧ ObjV m x cn ns vs ∧ sp [x] m R E) ∨ unM op x m R E
def cmpO (cn : Str) (sp : SpX) (x y : D) : M D := fun m R E => (∃ ns vs ns2 vs2, ObjV m x cn ns vs ∧ ObjV m y cn ns2 vs2 ∧ sp [x, y] m R E) ∨ cmpM .Eq x y m R E
section
variable {X : CD} {a b : Expr} {ρ : Rn} {pos : Pos} {c ca cb : M D} {cn : Str} {k n : Nat} {sp : SpX} {mg : Str → Option Value} {P : Program} {w : World} {K : Frag} {base : Heap}
def cmpOB (cn : Str) (sp : SpX) (x y : D) : M Bool := fun m R E => (∃ ns vs ns2 vs2, ObjV m x cn ns vs ∧ ObjV m y cn ns2 vs2 ∧ sp [x, y] m (fun d m' => ∃ k, d = .bl k ∧ R k m') E) ∨ cmpB .Eq x y m R E
theorem tv_cmpO (hu : X.A.units + 64 < cLine) (G : KnowsM P w K mg base k cn "__eq__" n sp) (hr : Room k X.A) (ha : Ev X a ρ ca) (hb : Ev X b ρ cb) (hX : X.prog = P ∧ X.w = w ∧ X.K = K ∧ X.mg = mg ∧ X.base = base := by exact ⟨rfl, rfl, rfl, rfl, rfl⟩) : Tv X (.Compare a [.Eq] [b] pos) ρ (bnd ca fun x => bnd cb fun y => cmpOB cn sp x y) := ⟨fun m R E xa h => by
  obtain ⟨rfl, rfl, rfl, rfl, rfl⟩ := hX
  refine t_cmpE ((ha.run m _ E xa h).mono fun d1 m1 h1 => (hb.run m1 _ E xa h1).mono fun d2 m2 h3 => ?_)
  rcases h3 with ⟨ns, vs, ns2, vs2, h4, h5, h6⟩ | h3
  · exact o_ownE hu G hr xa h4 h5 h6
  · exact (cmpB_ok hu h3).toE⟩
/-! a new list times an int -/
def repM (x y : D) : M D := fun m R _ => match x, y with
  | .ref a, .int i => ∃ (n : Nat) (ds : List D), m[n]? = some (a, .lst ds) ∧ i ≤ 10000 ∧ -10000 ≤ i ∧ ds.length ≤ 5 ∧ R (.lst (List.replicate i.toNat ds).flatten) m
  | _, _ => False
end
end DL


namespace DL
open PySem PySem.Spec PySem.Calls PyProof.Rows L2 RZ

/-! ### {} and {k: v} -/
def newDM : M D := fun m R _ => ∀ p, R (.ref p) (m ++ [(p, .dI [] [])])
def putM (d k v : D) : M D := fun m R _ => match d, k with
  | .ref p, .tup kd => ∃ (n : Nat) (k : List Int), kd = k.map .int ∧ m[n]? = some (p, .dI [] []) ∧ R (.ref p) (m.set n (p, .dI [k] [v]))
  | _, _ => False
section
variable {X : CD} {a b kx vx : Expr} {ρ : Rn} {pos : Pos} {c ck cv : M D}
theorem ev_newD : Ev X (.Dict [] [] pos) ρ newDM := ⟨fun m R E xa h => x_newD (b := true) h⟩
end
end DL


namespace DL
open PySem PySem.Spec PySem.Calls PyProof.Rows L2 RZ

/-! ### own iteration, own in -/
def iterO (cn fld : Str) (d : D) : M (List D) := fun m R E => (∃ ns vs ds, ObjV m d cn ns vs ∧ lookF ns vs fld = some (.lst ds) ∧ R ds m)
def inOB (cn : Str) (sp : SpX) (neg : Bool) (x y : D) : M Bool := fun m R E => ∃ ns vs, ObjV m y cn ns vs ∧ sp [y, x] m (fun d m' => ∃ c, d = .bl c ∧ R (if neg then !c else c) m') E
section
variable {X : CD} {a b it tg : Expr} {ρ : Rn} {pos : Pos} {c ca cb : M D} {cn fld : Str} {k n : Nat} {sp : SpX} {mg : Str → Option Value} {P : Program} {w : World} {K : Frag} {base : Heap}
theorem iv_own (G : KnowsI P w K mg base k cn fld) (hr : Room k X.A) (h : Ev X it ρ c) (hX : X.prog = P ∧ X.w = w ∧ X.K = K ∧ X.mg = mg ∧ X.base = base := by exact ⟨rfl, rfl, rfl, rfl, rfl⟩) : Iv X tg it ρ (bnd c (iterO cn fld)) := ⟨fun m R E xa k => by
  obtain ⟨rfl, rfl, rfl, rfl, rfl⟩ := hX
  exact ix_own G hr ((h.run m _ E xa k).mono fun d m1 h => h)⟩
end
end DL


namespace DL
open PySem PySem.Spec PySem.Calls PyProof.Rows L2 RZ

/-! ### a[i], b[j] = e -/
def swp2 {α : Type} (d : D) (f : D → D → M α) : M α := fun m R E => match d with
  | .tup [x, y] => f x y m R E
  | _ => False
section
variable {X : CD} {e o1 i1 o2 i2 : Expr} {rest : List Stmt} {ρ : Rn} {p1 p2 pt pos : Pos} {kt : Nat} {σ τ : Type} {en : σ → Option Rn} {el : τ → Rn} {ce c1 k1 c2 k2 : M D} {k : M (Fl σ τ)}
end
/-! ### i in xs, ints -/
def inSB (neg : Bool) (x y : D) : M Bool := fun m R _ => ∃ (i : Int) (ns : List Int), x = .int i ∧ (LstV m y (ns.map D.int) ∨ y = .tup (ns.map D.int)) ∧ R (if neg then !decide (i ∈ ns) else decide (i ∈ ns)) m
theorem inV_int {i : Int} : ∀ ns : List Int, inV (.int i) (ns.map V.int) = decide (i ∈ ns) := by
  intro ns
  unfold inV
  induction ns with
  | nil => simp
  | cons n ns ih =>
    simp only [List.map_cons, List.any_cons]
    rw [ih]
    by_cases h : i = n
    · subst h; simp [eqV]
    · simp [eqV, h]
      exact fun e => absurd e.symm h
section
variable {X : CD} {a b : Expr} {ρ : Rn} {pos : Pos} {ca cb : M D} {m : Led} {x y : D}
theorem flat_ints (ns : List Int) : (ns.map V.int).all flatV = true := by simp [flatV]
theorem inS_ok {neg : Bool} {op : CmpOp} {R : Bool → Led → Prop} {E : XR} (ho : OpR X.toCx (compareOp op) (rIn X.K neg)) (h : inSB neg x y m R E) : OX X (compareOp op) x y m fun d m' => ∃ k, d = .bl k ∧ R k m' := by
  obtain ⟨i, ns, rfl, hy, k⟩ := h
  refine OX.of ho fun F H v u q1 q2 at_ => ?_
  cases q1
  rcases hy with hy | rfl
  · obtain ⟨p, xs, rfl, e1, s1⟩ := hy.read at_.toAt q2
    have := s1.ints
    subst this
    exact ⟨p, _, rfl, .inl (.inl e1), rfl, flat_ints ns, PQ.now at_.toAt (.bl _) ⟨_, rfl, by rw [inV_int]; exact k⟩⟩
  · obtain ⟨p, xs, rfl, e1, s1⟩ := tup_read at_.toAt q2
    have := s1.ints
    subst this
    exact ⟨p, _, rfl, .inr e1, rfl, flat_ints ns, PQ.now at_.toAt (.bl _) ⟨_, rfl, by rw [inV_int]; exact k⟩⟩
theorem tv_notInS (ha : Ev X a ρ ca) (hb : Ev X b ρ cb) (hm : behindInMarks .NotIn b = false := by first | exact nobehind _ (by decide) (by decide) | rfl | with_unfolding_all rfl) : Tv X (.Compare a [.NotIn] [b] pos) ρ (bnd ca fun x => bnd cb fun y => inSB true x y) := ⟨fun m R E xa h =>
  t_cmp ((ha.run m _ E xa h).mono fun d1 m1 h1 => (hb.run m1 _ E xa h1).mono fun d2 m2 h2 => inS_ok op_notIn_seq h2) hm⟩
end
end DL


namespace DL
open PySem PySem.Spec PySem.Calls PyProof.Rows L2 RZ

/-! ### list(o), len(o) of an own class -/
def listO (cn fld : Str) (ds : List D) : M D := fun m R E => (∃ d ns vs xs, ds = [d] ∧ ObjV m d cn ns vs ∧ lookF ns vs fld = some (.lst xs) ∧ xs.length ≤ 100000 ∧ R (.lst xs) m) ∨ listM ds m R E
def lenO (cn fld : Str) (ds : List D) : M D := fun m R E => (∃ d ns vs xs, ds = [d] ∧ ObjV m d cn ns vs ∧ lookF ns vs fld = some (.lst xs) ∧ R (.int (xs.length : Nat)) m) ∨ lenM ds m R E
section
variable {X : CD} {cn fld : Str} {k : Nat} {mg : Str → Option Value} {P : Program} {w : World} {K : Frag} {base : Heap}
end
/-! ### f(e, .., k = v, ..) -/
structure KnowsN (P : Program) (w : World) (K : Frag) (mg : Str → Option Value) (base : Heap) (k : Nat) (x : Str) (n : Nat) (ks : List Str) (sp : SpX) : Prop where
  fn : ∃ f fd ps, FnOk P w K mg base (L2.CX P w) k f fd ps (liftX K mg sp) ∧ mg x = some (.ref f) ∧ PySem.W.keepIn K (.ref f) = true ∧ KBn K fd ps n ks (fun us ws => us ++ ws) (fun vs zs => vs ++ zs)
theorem KnowsN.mono {P : Program} {w : World} {K : Frag} {mg : Str → Option Value} {base : Heap} {k j : Nat} {x : Str} {n : Nat} {ks : List Str} {sp : SpX} (G : KnowsN P w K mg base k x n ks sp) (h : k ≤ j) : KnowsN P w K mg base j x n ks sp := by
  obtain ⟨f, fd, ps, FO, r⟩ := G.fn
  exact ⟨f, fd, ps, FO.mono h, r⟩
def kwN (n j : Nat) (sp : SpX) (ds es : List D) : M D := fun m R E => ds.length = n ∧ es.length = j ∧ sp (ds ++ es) m R E
section
variable {X : CD} {e : Expr} {es : List Expr} {kws : List Keyword} {ks : List Str} {ρ : Rn} {m : Led} {R : D → Led → Prop} {E : Str → Option (Str × D) → Led → Prop} {x : Str} {p pos : Pos} {k n : Nat} {sp : SpX} {mg : Str → Option Value} {P : Program} {w : World} {K : Frag} {base : Heap} {cs ck : M (List D)}
end
/-! ### a ledger dict read as frozen for a while, and put back where it was -/
theorem At.perm {K : Frag} {F H : Hp} {m m2 : Led} (a : At K F m H) (h : m.Perm m2) : At K F m2 H :=
  ⟨a.sub, fun p hp => a.led p (h.mem_iff.mpr hp), fun p hp => a.dis p (h.mem_iff.mpr hp), (h.map _).nodup_iff.mp a.nod⟩
theorem Step.perm {K : Frag} {F H F2 H2 : Hp} {m m1 m2 : Led} (s : Step K F m H F2 m1 H2) (h : m1.Perm m2) : Step K F m H F2 m2 H2 :=
  ⟨s.at2.perm h, s.ex, s.keep, s.frF, fun a ha => s.frM a ((h.map _).mem_iff.mpr ha)⟩
def thawS (d : D) (c : D → M D) : M D := fun m R E => match d with
  | .ref a => ∃ (n : Nat) (ks : List (List Int)) (ds : List D), m[n]? = some (a, .dI ks ds) ∧ c (.dI ks ds) (m.eraseIdx n) (fun r m2 => noD r = true ∧ m2 = m.eraseIdx n ∧ noDL m2 ∧ R r m) NoX
  | d => c d m R NoX
section
variable {X : CD} {e : Expr} {ρ : Rn} {x : Str} {i : Nat} {d : D}
end
end DL


namespace DL
open PySem PySem.Spec PySem.Calls PyProof.Rows L2 RZ

/-! ### e[::-1] -/
def revM (d : D) : M D := fun m R E => lstM d m (fun ds m' => R (.lst ds.reverse) m') E
theorem Dens.reverse {K : Frag} {F : Hp} : ∀ {vs : List V} {ds : List D}, Dens K F vs ds → Dens K F vs.reverse ds.reverse
  | _, _, .nil => .nil
  | _, _, .cons q t => by
    rw [List.reverse_cons, List.reverse_cons]
    exact (Dens.reverse t).append (.cons q .nil)
section
variable {X : CD} {e o : Expr} {es : List Expr} {ρ : Rn} {c co : M D} {cs : M (List D)} {k : Nat} {p1 p2 p3 pos apos cpos : Pos} {m : Led} {R : D → Led → Prop}
/-! ### methods of builtin kinds: the kind is known when the object is -/
structure MtId (name : Str) (T id : String) : Prop where
  pa : PlainAttrs T
  slot : Slot T name id
  hty : typeOf (.builtin id) = pure (.type "method_descriptor")
def KdX (X : CD) (m : Led) (d : D) (T : String) : Prop := ∀ F σ H x pins s v, Den X.K F x d → AtX X F m H → Inv X pins σ H s → RelV x v → s.TypeIs v T ∧ ∀ a, v = .ref a → ∃ ob, s.heap.get? a = some ob ∧ ob.dict = none
theorem ev_mt0 {name : Str} {op : D → M D} (ho : Ev X o ρ co) (hop : ∀ d m R E, op d m R E → ∃ T id, MtId name T id ∧ KdX X m d T ∧ BX X (.builtin id) [d] m R)
    (hbase : attributeBase o name X.env (eval o X.env) = eval o X.env := by rfl) (hline : (apos.endLine == cpos.line) = true := by rfl) : Ev X (.Call (.Attribute o name apos) [] [] cpos) ρ (bnd co op) := ⟨fun m R E xa h => .mk fun F σ H en at_ => by
  intro pins s I
  refine wpAny_Call_method0_late hbase hline (thn (((ho.run m _ E xa h).run F σ H en at_) pins s I) fun v s1 ⟨x, H1, I1, r1, d, F1, m1, st, q, r⟩ => ?_)
  obtain ⟨T, id, mi, kd, b⟩ := hop d m1 R E r
  obtain ⟨h1, h2⟩ := kd F1 σ H1 x pins s1 v q (at_.to st) I1 r1
  refine ⟨T, id, mi.pa, mi.slot, mi.hty, h1, h2, Calls.callWith_builtin rfl (PySem.evalArgs_none ?_)⟩
  exact thn (b.run F1 σ H1 [x] pins s1 [v] (.cons q .nil) (at_.to st) I1 (.cons r1 .nil)) fun w s2 ⟨y, H2, I2, r2, k⟩ => ⟨y, H2, I2, r2, PQ.step st k⟩⟩
theorem ev_mt {name : Str} {ck : D → M Unit} {op : D → List D → M D} (ho : Ev X o ρ co) (ha : EvA X (e :: es) ρ cs) (hop : ∀ d m R E, ck d m R E → ∃ T id, MtId name T id ∧ KdX X m d T ∧ (∀ ds m R E, op d ds m R E → BX X (.builtin id) (d :: ds) m R) ∧ R () m)
    (hbase : attributeBase o name X.env (eval o X.env) = eval o X.env := by rfl)
    (hfew : ((backTo cpos (starEach (e :: es) X.env)).all (fun x => !x.1) && (backToKw cpos (keywordEach [] X.env)).all (fun x => x.1.isSome)
      && decide ((e :: es).length + ([] : List Keyword).length + (if ([] : List Keyword).isEmpty then 0 else 1) < 30)) = true := by rfl)
    (hline : (apos.endLine == cpos.line) = true := by rfl) (hs : starEach (e :: es) X.env = (false, eval e X.env) :: starEach es X.env := by rfl) (hplain : (backTo cpos (starEach es X.env)).any (·.1) = false := by rfl) :
    Ev X (.Call (.Attribute o name apos) (e :: es) [] cpos) ρ (bnd co fun u => bnd (ck u) fun _ => bnd cs (op u)) := ⟨fun m R E xa h => .mk fun F σ H en at_ => by
  intro pins s I
  refine wpAny_Call_method_late hbase hfew hline rfl (thn (((ho.run m _ E xa h).run F σ H en at_) pins s I) fun v s1 ⟨x, H1, I1, r1, d, F1, m1, st, q, r⟩ => ?_)
  obtain ⟨T, id, mi, kd, b, r⟩ := hop d m1 _ E r
  obtain ⟨h1, h2⟩ := kd F1 σ H1 x pins s1 v q (at_.to st) I1 r1
  refine ⟨T, id, mi.pa, mi.slot, mi.hty, h1, h2, ?_⟩
  have hA := ((ha.run m1 _ E xa r).run F1 σ H1 (en.mono st.ex) (at_.to st)) cpos pins s1 I1
  rw [hs] at hA ⊢
  refine Calls.callWith_builtin (by show (false || (backTo cpos (starEach es X.env)).any (·.1)) = false; rw [hplain] <;> rfl) (Calls.evalArgs_plain ?_)
  refine thn hA fun us s2 ⟨vs, H2, I2, r2, ds, F2, m2, st2, q2, r⟩ => ?_
  exact thn ((b ds m2 R E r).run F2 σ H2 (x :: vs) pins s2 (v :: us) (.cons (q.mono st2.ex) q2) ((at_.to st).to st2) I2 (.cons r1 r2)) fun w s3 ⟨y, H3, I3, r3, k⟩ => ⟨y, H3, I3, r3, PQ.step (st.trans st2) k⟩⟩
/-! kinds -/
theorem kd_lst {d : D} {ds : List D} (h : LstV m d ds) : KdX X m d "list" := fun F σ H x pins s v q at_ I r => by
  obtain ⟨p, xs, rfl, e1, s1⟩ := h.read at_.toAt q
  exact tyV_is I r (.inl ⟨rfl, xs, .inl e1⟩)
theorem kd_dic {d : D} {ks : List (List Int)} {ds : List D} (h : DicV m d ks ds) : KdX X m d "dict" := fun F σ H x pins s v q at_ I r => by
  obtain ⟨p, rfl, dd⟩ := h.read at_.toAt q
  obtain ⟨o, xs, h1, h2, h3, h4, _⟩ := dd.has []
  cases r
  have e := objO_get I.hok h1
  refine ⟨⟨o, e, h2.ex.1⟩, fun a e2 => ?_⟩
  cases e2
  exact ⟨o, e, h2.ex.2.1⟩
end
end DL


namespace DL
open PySem PySem.Spec PySem.Calls PyProof.Rows L2 RZ

/-! ### d.clear() -/
section
variable {prog : Program} {w : World} {A : Around} {E : Value → Shared → Prop} {s : Shared}
theorem meets_clear_raw {d : Addr} (hd : (d == sysModules) = false) :
    MeetsIn prog w (Builtin.«dict.clear» ⟨[.ref d], []⟩) (fun _ R s => ∃ es ep, s.heap.DictRaw d es ep ∧ es.size ≤ sizeLine ∧
      ∀ h', (∃ o ep', h'.get? d = some o ∧ o.ExactDict ∧ o.data = .dict #[] ep') → Heap.SameBut d s.heap h' → R (.ok (.ret .none)) { s with heap := h' }) :=
  .of_wp fun A R s ⟨es, ep, hm, hes, h⟩ => by
    obtain ⟨o, ho, hc, hdat⟩ := id hm
    unfold Builtin.«dict.clear»
    refine wpAny_bind ?_
    unfold Builtin.Dict.noArgs
    refine wpAny_bind (wpAny_notOrdered_dict hm.typeIs ?_)
    show wpAny _ _ (pure d) _ _ s
    refine wpAny_pure ?_
    refine wpAny_bind (wpAny_dictEntries ho hdat ?_)
    refine wpAny_bind ?_
    unfold bearsInstanceDictMark
    refine wpAny_bind (wpAny_load ho (wpAny_pure ?_))
    refine wpAny_bind (wpAny_updateDictKeys (hz := hes) ho hdat ?_)
    have hnew : ∃ o2 ep', (s.heap.update d (Obj.mapDictKeys fun _ => #[])).get? d = some o2 ∧ o2.ExactDict ∧ o2.data = .dict #[] ep' :=
      ⟨_, ep + 1, Heap.get?_update_self _ ho (Obj.isFreed_of_dict (Obj.data_mapDictKeys hdat _)), hc.mapDictKeys _, Obj.data_mapDictKeys hdat _⟩
    split
    · exact wpAny_bind (wpAny_letGo (wpAny_pure ⟨.none, rfl, h _ hnew (Heap.SameBut.update ..)⟩))
    · exact wpAny_bind (wpAny_pure (wpAny_pure ⟨.none, rfl, h _ hnew (Heap.SameBut.update ..)⟩))
end
section
variable {X : CD} {m : Led} {R : D → Led → Prop} {E : XR} {d y : D} {ks : List (List Int)} {ds : List D} {k : List Int} {a : Addr} {n : Nat}
theorem b_clearL (hm : m[n]? = some (a, .lst ds)) (kk : R .non (m.set n (a, .lst []))) : BX X (.builtin "list.clear") [.ref a] m R := .mk fun F σ H xs pins s us qs at_ I rs => by
  obtain ⟨v, rfl, q⟩ := qs.one
  obtain ⟨u, rfl, rx⟩ := vals1 rs
  cases q
  obtain ⟨hh, ⟨ys, rfl, hs⟩, e2⟩ := at_.toAt.get hm
  exact mt_clear pins s σ H (.ref a) [] u [] _ I rx .nil ⟨a, ys, rfl, rfl, e2, .non, F, _, Step.write (o' := .lst []) at_.toAt hm ⟨_, rfl, .nil⟩, .non, kk⟩
theorem b_clearD (hm : m[n]? = some (a, .dI ks ds)) (kk : R .non (m.set n (a, .dI [] []))) : BX X (.builtin "dict.clear") [.ref a] m R := .mk fun F σ H xs pins s us qs at_ I rs => by
  obtain ⟨v, rfl, q⟩ := qs.one
  obtain ⟨u, rfl, rx⟩ := vals1 rs
  cases q
  cases rx
  obtain ⟨hh, ⟨ob, ys, vs, rfl, h1, h2, h3, h4, h5⟩, e⟩ := at_.toAt.get hm
  obtain ⟨ep, hdt⟩ := h1.dat
  have hg := objO_get I.hok e
  have raw : s.heap.DictRaw a _ ep := ⟨ob, hg, h1.ex, hdt⟩
  refine call_meetsIn PySem.F.slot_dict_clear raw.typeIs PySem.F.entry_dict_clear (PySem.F.args_dict_clear_1 _) (meets_clear_raw h1.sys) ⟨_, ep, raw, by simpa using h1.len, fun h' ⟨o', ep', ho', hx, hd'⟩ hs => ?_⟩
  have dobj : DictObj a o' [] := ⟨hx, ⟨ep', hd'⟩, List.nodup_nil, Nat.zero_le _, h1.sys⟩
  refine ⟨.non, upd H a (objO a o'), I.write (x := a) (e := a) (by rw [e]; exact True.intro) (.inl rfl) (fun b ub hb e => (hs.2 b hb).trans e) ⟨_, ho'⟩ (objO_ok ho'), rfl, ?_⟩
  exact ⟨.non, F, _, Step.write (o' := .dI [] []) at_.toAt hm (DicX.mden (xs := []) ⟨[], rfl, (fun _ h => nomatch h), .nil, .nil⟩ dobj), .non, kk⟩
/-! ### d.get(k, x) -/
theorem Dens.three {K : Frag} {F : Hp} {vs : List V} {a b c : D} (h : Dens K F vs [a, b, c]) : ∃ u v w, vs = [u, v, w] ∧ Den K F u a ∧ Den K F v b ∧ Den K F w c := by
  cases h with
  | cons q t =>
    obtain ⟨v, w, rfl, q2, q3⟩ := t.two
    exact ⟨_, _, _, rfl, q, q2, q3⟩
theorem vals3d {a b c : V} {us : List Value} (h : Vals [a, b, c] us) : ∃ u v w, us = [u, v, w] ∧ RelV a u ∧ RelV b v ∧ RelV c w := by
  cases h with
  | cons q t =>
    obtain ⟨v, w, rfl, q2, q3⟩ := vals2 t
    exact ⟨_, _, _, rfl, q, q2, q3⟩
theorem b_get2 (hu : X.A.units + 64 < cLine) (h : DicV m d ks ds) (kk : (∃ (i : Nat) (x : D), ks[i]? = some k ∧ ds[i]? = some x ∧ R x m) ∨ (k ∉ ks ∧ R y m)) : BX X (.builtin "dict.get") [d, keyD k, y] m R := .mk fun F σ H xs pins s us qs at_ I rs => by
  obtain ⟨v1, v2, v3, rfl, q1, q2, q3⟩ := qs.three
  obtain ⟨u1, u2, u3, rfl, r1, r2, r3⟩ := vals3d rs
  obtain ⟨p, rfl, dd⟩ := h.read at_.toAt q1
  obtain ⟨c, rfl, sq⟩ := key_read at_.toAt q2
  cases r1
  cases r2
  rcases kk with ⟨i, x, hk, hx, r⟩ | ⟨hk, r⟩
  · obtain ⟨o, xs, b', u', w', h1, h2, h3, h4, h5, ru, qd⟩ := dd.at hk hx
    have dh := dictI I h1 h2 h4
    refine call_meetsIn PySem.F.slot_dict_get dh.typeIs PySem.F.entry_dict_get (PySem.F.args_dict_get_3 _ _ _) (meetsH_dict_get_default (kI X.prog X.w) p c h2.sys u3) ⟨roomI hu, k, xs, keyI I sq, dh, ?_⟩
    rw [h5]
    exact ⟨w', H, I.tok _, ru, PQ.now at_.toAt qd r⟩
  · obtain ⟨o, xs, h1, h2, h3, h4, _⟩ := dd.has k
    have dh := dictI I h1 h2 h4
    refine call_meetsIn PySem.F.slot_dict_get dh.typeIs PySem.F.entry_dict_get (PySem.F.args_dict_get_3 _ _ _) (meetsH_dict_get_default (kI X.prog X.w) p c h2.sys u3) ⟨roomI hu, k, xs, keyI I sq, dh, ?_⟩
    rw [atKey_none (by rw [h3]; exact hk)]
    exact ⟨v3, H, I.tok _, r3, PQ.now at_.toAt q3 r⟩
end
/-! ### mirrors -/
def clrM (d : D) : M D := fun m R _ => match d with
  | .ref a => (∃ (n : Nat) (ds : List D), m[n]? = some (a, .lst ds) ∧ R .non (m.set n (a, .lst []))) ∨ ∃ (n : Nat) (ks : List (List Int)) (ds : List D), m[n]? = some (a, .dI ks ds) ∧ R .non (m.set n (a, .dI [] []))
  | _ => False
def chkD (d : D) : M Unit := fun m R _ => (∃ ks ds, DicV m d ks ds) ∧ R () m
def getM (d : D) (ys : List D) : M D := fun m R _ => ∃ k y ks ds, ys = [keyD k, y] ∧ DicV m d ks ds ∧ ((∃ (i : Nat) (x : D), ks[i]? = some k ∧ ds[i]? = some x ∧ R x m) ∨ (k ∉ ks ∧ R y m))
section
variable {X : CD} {o e e2 : Expr} {ρ : Rn} {co : M D} {cs : M (List D)} {apos cpos : Pos}
theorem ev_clear (ho : Ev X o ρ co) (hbase : attributeBase o "clear" X.env (eval o X.env) = eval o X.env := by rfl) (hline : (apos.endLine == cpos.line) = true := by rfl) : Ev X (.Call (.Attribute o "clear" apos) [] [] cpos) ρ (bnd co clrM) :=
  ev_mt0 ho (fun d m R E h => by
    cases d <;> try exact h.elim
    rcases h with ⟨n, ds, hm, k⟩ | ⟨n, ks, ds, hm, k⟩
    · exact ⟨"list", "list.clear", ⟨PySem.F.plainAttrs_list, PySem.F.slot_list_clear, PySem.F.type_list_clear⟩, kd_lst (.inr ⟨n, _, rfl, hm⟩), b_clearL hm k⟩
    · exact ⟨"dict", "dict.clear", ⟨PySem.F.plainAttrs_dict, PySem.F.slot_dict_clear, PySem.F.type_dict_clear⟩, kd_dic (.inr ⟨n, _, rfl, hm⟩), b_clearD hm k⟩) hbase hline
theorem ev_get (hu : X.A.units + 64 < cLine) (ho : Ev X o ρ co) (ha : EvA X [e, e2] ρ cs) (hbase : attributeBase o "get" X.env (eval o X.env) = eval o X.env := by rfl)
    (hfew : ((backTo cpos (starEach [e, e2] X.env)).all (fun x => !x.1) && (backToKw cpos (keywordEach [] X.env)).all (fun x => x.1.isSome)
      && decide ([e, e2].length + ([] : List Keyword).length + (if ([] : List Keyword).isEmpty then 0 else 1) < 30)) = true := by rfl)
    (hline : (apos.endLine == cpos.line) = true := by rfl) (hs : starEach [e, e2] X.env = (false, eval e X.env) :: starEach [e2] X.env := by rfl) (hplain : (backTo cpos (starEach [e2] X.env)).any (·.1) = false := by rfl) :
    Ev X (.Call (.Attribute o "get" apos) [e, e2] [] cpos) ρ (bnd co fun u => bnd (chkD u) fun _ => bnd cs (getM u)) :=
  ev_mt ho ha (fun d m R E ⟨⟨ks, ds, hd⟩, r⟩ => ⟨"dict", "dict.get", ⟨PySem.F.plainAttrs_dict, PySem.F.slot_dict_get, PySem.F.type_dict_get⟩, kd_dic hd, fun ys m R E ⟨k, y, ks, ds, hy, hd, kk⟩ => by
    subst hy
    exact b_get2 hu hd kk, r⟩) hbase hfew hline hs hplain
end
section
variable {m : Led} {RD : D → Led → Prop} {E : XR} {d y : D} {ks : List (List Int)} {ds : List D} {k : List Int} {a : Addr}
theorem clr_D (n : Nat) (hm : m[n]? = some (a, .dI ks ds)) (h : RD .non (m.set n (a, .dI [] []))) : clrM (.ref a) m RD E := .inr ⟨n, ks, ds, hm, h⟩
theorem chkD_i {R : Unit → Led → Prop} (hd : DicV m d ks ds) (h : R () m) : chkD d m R E := ⟨⟨ks, ds, hd⟩, h⟩
theorem get_some {x : D} (i : Nat) (hd : DicV m d ks ds) (h1 : ks[i]? = some k) (h2 : ds[i]? = some x) (h : RD x m) : getM d [keyD k, y] m RD E := ⟨k, y, ks, ds, rfl, hd, .inl ⟨i, x, h1, h2, h⟩⟩
theorem get_none (hd : DicV m d ks ds) (h1 : k ∉ ks) (h : RD y m) : getM d [keyD k, y] m RD E := ⟨k, y, ks, ds, rfl, hd, .inr ⟨h1, h⟩⟩
end
end DL


namespace DL
open PySem PySem.Spec PySem.Calls PyProof.Rows L2 RZ
/-! ### a name that a loop sets, read behind it -/
def gotM (o : Option D) : M D := fun m R _ => ∃ d, o = some d ∧ R d m
end DL


namespace DL
open PySem PySem.Spec PySem.Calls PyProof.Rows L2 RZ
open PySem.W (EachIs AllAlike Sortable dataLe sorted_data)
/-! ### sorted of lists of data -/
section
variable {X : CD} {m : Led} {R : D → Led → Prop} {d : D} {ds : List D} {b : Bool}
end
def sortX (b : Bool) (zs : List D) : M D := fun m R _ => ∃ d ds, zs = [d] ∧ LstV m d ds ∧ (∀ x ∈ ds, Sh 19 x) ∧ AllAlike (ds.map py) ∧ Sortable (ds.map py) ∧ RNewL R m (ds.mergeSort (dataLe false py)) b
end DL


namespace DL
open PySem PySem.Spec PySem.Calls PyProof.Rows L2 RZ
/-! ### o[lo:hi], the new list to be changed -/
def slMM (d : D) (lo hi : Option Int) : M D := fun m R E => lstM d m (fun ds m' => ∀ p, R (.ref p) (m' ++ [(p, .lst (cutD ds lo hi))])) E
section
variable {X : CD} {m : Led} {R : D → Led → Prop} {d1 : D} {e : Expr} {ρ : Rn} {c : M D} {p2 pos : Pos}
end
end DL


namespace DL
open PySem PySem.Spec PySem.Calls PyProof.Rows L2 RZ
/-! ### own == other kinds -/
abbrev NotF (K : Frag) (cn : Str) : Prop := ∀ C, CnIs K cn C → PySem.W.notFirst K C (.type "dict") = true ∧ PySem.W.notFirst K C (.type "NoneType") = true
section
variable {X : CD} {a b : Expr} {ρ : Rn} {pos : Pos} {ca cb : M D} {cn : Str} {k n : Nat} {sp : SpX} {mg : Str → Option Value} {P : Program} {w : World} {K : Frag} {base : Heap} {m : Led} {R : D → Led → Prop} {E : XR} {d1 d2 : D}
def cmpX (cn : Str) (sp : SpX) (x y : D) : M D := fun m R E => cmpO cn sp x y m R E ∨ ∃ ns vs, ObjV m x cn ns vs ∧ (y = .non ∨ ∃ ks ds, DicV m y ks ds) ∧ sp [x, y] m R E
end
end DL


namespace DL
open PySem PySem.Spec PySem.Calls PyProof.Rows L2 RZ
abbrev ZObj (f0 f1 : Value) (TI TO : Addr) : Obj := { cls := .type "zip", dict := none, data := .fields #[f0, f1, .bool false, .ref TI, .ref TO], slots := #[] }
abbrev TObj (xs : List Value) : Obj := { cls := .type "tuple", data := .seq xs.toArray }
def ItAt (h : Heap) : Bool → Addr → Addr → Nat → Prop
  | true, it, l, i => h.IsListIter it l i
  | false, it, l, i => h.IsTupleIter it l i
def SrcAt (h : Heap) : Bool → Addr → List Value → Prop
  | true, l, xs => h.IsList l xs.toArray
  | false, l, xs => h.IsTuple l xs.toArray
theorem ItAt.at {h h' : Heap} {k : Bool} {it l : Addr} {i : Nat} (st : ItAt h k it l i) (e : ∀ o, h.get? it = some o → h'.get? it = some o) : ItAt h' k it l i := by
  cases k
  · exact Heap.IsTupleIter.at st e
  · exact Heap.IsListIter.at st e
theorem SrcAt.at {h h' : Heap} {k : Bool} {l : Addr} {xs : List Value} (st : SrcAt h k l xs) (e : ∀ o, h.get? l = some o → h'.get? l = some o) : SrcAt h' k l xs := by
  cases k
  · obtain ⟨o, ho, r⟩ := st
    exact ⟨o, e o ho, r⟩
  · obtain ⟨o, ho, r⟩ := st
    exact ⟨o, e o ho, r⟩
theorem ItAt.obj {h : Heap} {k : Bool} {it l : Addr} {i : Nat} (st : ItAt h k it l i) : ∃ o, h.get? it = some o ∧ ∀ v, o.data ≠ .cell v := by
  cases k
  · obtain ⟨o, ho, c, d⟩ := st
    exact ⟨o, ho, fun v q => by rw [d] at q; cases q⟩
  · obtain ⟨o, ho, c, d⟩ := st
    exact ⟨o, ho, fun v q => by rw [d] at q; cases q⟩
section
variable {prog : Program} {w : World} {A : Around} {E : Value → Shared → Prop} {s : Shared}
end
/-- the cells of a zip over the rows rs: the iterators at b, b + 1, .., their tuple, the owned tuple, the zip itself -/
structure ZAt (h : Heap) (b : Nat) (rs : List (Bool × Addr)) (i : Nat) (f0 f1 : Value) : Prop where
  z : h.get? (b + rs.length + 2) = some (ZObj f0 f1 (b + rs.length) (b + rs.length + 1))
  ti : h.get? (b + rs.length) = some (TObj ((List.range rs.length).map fun j => .ref (b + j)))
  to : ∃ kept : List Value, kept.length = rs.length ∧ h.get? (b + rs.length + 1) = some (TObj kept)
  its : ∀ (j : Nat) (k : Bool) (l : Nat), rs[j]? = some (k, l) → ItAt h k (b + j) l i
end DL


namespace DL
open PySem PySem.Spec PySem.Calls PyProof.Rows L2 RZ
def F0 (f0 : Value) : Prop := f0 = .none ∨ ∃ T : Addr, f0 = rawInt T
structure Off (b e : Nat) (h h' : Heap) : Prop where
  sz : h'.objs.size = h.objs.size
  out : ∀ c, (c < b ∨ e ≤ c) → h'.get? c = h.get? c
theorem Off.refl {b e : Nat} {h : Heap} : Off b e h h := ⟨rfl, fun _ _ => rfl⟩
section
variable {prog : Program} {w : World} {A : Around} {E : Value → Shared → Prop} {s : Shared}
end
end DL


namespace DL
open PySem PySem.Spec PySem.Calls PyProof.Rows L2 RZ
section
variable {prog : Program} {w : World} {A : Around} {E : Value → Shared → Prop} {s : Shared}
end
end DL


namespace DL
open PySem PySem.Spec PySem.Calls PyProof.Rows L2 RZ
section
variable {prog : Program} {w : World} {A : Around} {E : Value → Shared → Prop} {s : Shared}
end
def SrcAll (h : Heap) (rs : List (Bool × Addr)) : Prop := ∀ (j : Nat) (k : Bool) (l : Nat), rs[j]? = some (k, l) → ∃ items, SrcAt h k l items
section
variable {prog : Program} {w : World} {A : Around} {E : Value → Shared → Prop} {s : Shared}
end
end DL


namespace DL
open PySem PySem.Spec PySem.Calls PyProof.Rows L2 RZ
def SqK (K : Frag) (H : Hp) : Bool → Addr → List V → Prop
  | true, a, xs => SqL K H a xs
  | false, a, xs => SqT K H a xs
/-- xs: the column at i of the rows -/
def Zrow (K : Frag) (H : Hp) (rs : List (Bool × Addr)) (i : Nat) (xs : List V) : Prop :=
  xs.length = rs.length ∧ ∀ (j : Nat) (k : Bool) (l : Nat), rs[j]? = some (k, l) → ∃ ys x, SqK K H k l ys ∧ ys[i]? = some x ∧ xs[j]? = some x
def IteZ (K : Frag) (rs : List (Bool × Addr)) : It :=
  ⟨fun i H => ∃ xs, Zrow K H rs i xs, fun i H v H' => ∃ T xs, v = .ref T ∧ H T = none ∧ H' = upd H T (.tup xs) ∧ xs.length = rs.length ∧ ∀ (j : Nat) (k : Bool) (l : Nat) ys, rs[j]? = some (k, l) → SqK K H k l ys → ∃ x, ys[i]? = some x ∧ xs[j]? = some x,
    fun i H => ∃ k l ys, rs[0]? = some (k, l) ∧ SqK K H k l ys ∧ ys.length = i⟩
section
variable {X : Cx} {pins : List (Addr × Obj)} {σ : L2.St} {H : Hp} {s : Shared}
end
theorem mem_fp {b n c : Nat} : (c ∈ (List.range n).map (fun j => b + j)) ↔ (b ≤ c ∧ c < b + n) := by
  simp only [List.mem_map, List.mem_range]
  constructor
  · rintro ⟨j, h, rfl⟩; omega
  · intro h; exact ⟨c - b, by omega, by omega⟩
def ZTn (b : Nat) (rs : List (Bool × Addr)) (i : Nat) (h : Heap) : Prop := ∃ f0 f1, ZAt h b rs i f0 f1 ∧ F0 f0 ∧ (∃ q, f1 = .bool q) ∧ 0 < rs.length ∧ rs.length ≤ sizeLine ∧ ∀ (j : Nat) (k : Bool) (l : Nat), rs[j]? = some (k, l) → l < b
theorem ZAt.keep {h h' : Heap} {b : Nat} {rs : List (Bool × Addr)} {i : Nat} {f0 f1 : Value} (Z : ZAt h b rs i f0 f1) (k : ∀ c ∈ (List.range (rs.length + 3)).map (fun j => b + j), ∀ o, h.get? c = some o → h'.get? c = some o) : ZAt h' b rs i f0 f1 := by
  obtain ⟨kept, e1, e2⟩ := Z.to
  exact ⟨k _ (mem_fp.mpr (by omega)) _ Z.z, k _ (mem_fp.mpr (by omega)) _ Z.ti, ⟨kept, e1, k _ (mem_fp.mpr (by omega)) _ e2⟩, fun j kk l e => (Z.its j kk l e).at fun o ho => k _ (mem_fp.mpr (by have := (List.getElem?_eq_some_iff.mp e).1; omega)) o ho⟩
theorem ZAt.there {h : Heap} {b : Nat} {rs : List (Bool × Addr)} {i : Nat} {f0 f1 : Value} (Z : ZAt h b rs i f0 f1) (c : Nat) (hc : b ≤ c ∧ c < b + (rs.length + 3)) : ∃ o, h.get? c = some o ∧ ∀ v, o.data ≠ .cell v := by
  obtain ⟨kept, e1, e2⟩ := Z.to
  by_cases h1 : c < b + rs.length
  · have hj : c - b < rs.length := by omega
    have e0 : rs[c - b]? = some rs[c - b] := List.getElem?_eq_getElem hj
    have := (Z.its (c - b) _ _ e0).obj
    rw [show b + (c - b) = c from by omega] at this
    exact this
  · by_cases h2 : c = b + rs.length
    · subst h2; exact ⟨_, Z.ti, fun v q => nomatch q⟩
    · by_cases h3 : c = b + rs.length + 1
      · subst h3; exact ⟨_, e2, fun v q => nomatch q⟩
      · have h4 : c = b + rs.length + 2 := by omega
        subst h4; exact ⟨_, Z.z, fun v q => nomatch q⟩
end DL


namespace DL
open PySem PySem.Spec PySem.Calls PyProof.Rows L2 RZ
theorem vals_refs {rs : List (Bool × Addr)} {us : List Value} (h : Vals (rs.map fun r => V.ref r.2) us) : us = rs.map fun r => Value.ref r.2 := by
  induction rs generalizing us with
  | nil => cases h; rfl
  | cons r rs ih =>
    cases h with
    | cons h1 h2 =>
      cases h1
      rw [ih h2]
      rfl
def iZipS (K : Frag) (te : TE) : TI := fun σ H R => te σ H fun v H1 => ∃ a rs, v = .ref a ∧ (SqT K H1 a (rs.map fun r => V.ref r.2) ∨ SqL K H1 a (rs.map fun r => V.ref r.2)) ∧ 0 < rs.length ∧ (∀ (j : Nat) (k : Bool) (l : Nat), rs[j]? = some (k, l) → ∃ ys, SqK K H1 k l ys) ∧ R (IteZ K rs) H1
/-- rows as data, their columns -/
def SeqS (ds : List D) (rss : List (List D)) : Prop := ds.length = rss.length ∧ ∀ (j : Nat) d r, ds[j]? = some d → rss[j]? = some r → Seq d r
def colD (rss : List (List D)) (i : Nat) : D := .tup (rss.map fun r => (r[i]?).getD .non)
def colsD (n : Nat) (rss : List (List D)) : List D := (List.range n).map (colD rss)
theorem SeqS.cons {d : D} {ds : List D} {r : List D} {rss : List (List D)} (h : SeqS (d :: ds) (r :: rss)) : Seq d r ∧ SeqS ds rss :=
  ⟨h.2 0 d r rfl rfl, by simpa using h.1, fun j d' r' h1 h2 => h.2 (j + 1) d' r' (by simpa using h1) (by simpa using h2)⟩
section
variable {X : CD} {e : Expr} {ρ : Rn} {m : Led} {R : List D → Led → Prop} {p p2 pos : Pos} {tg : Expr}
end
end DL


namespace DL
open PySem PySem.Spec PySem.Calls PyProof.Rows L2 RZ
/-! ### zip of a list and a tuple -/
def iZip2 (K : Frag) (ta : TA) : TI := fun σ H R => ta σ H fun vs H1 => ∃ (k1 : Bool) (l1 : Nat) (k2 : Bool) (l2 : Nat) (xs ys : List V), vs = [.ref l1, .ref l2] ∧ SqK K H1 k1 l1 xs ∧ SqK K H1 k2 l2 ys ∧ R (IteZ K [(k1, l1), (k2, l2)]) H1
theorem SqK.ex {K : Frag} {H H' : Hp} {k : Bool} {l : Addr} {xs : List V} (h : SqK K H k l xs) (e : Ex H H') : SqK K H' k l xs := by
  cases k
  · exact e.sqT h
  · exact e.sqL h
section
variable {X : CD} {a b : Expr} {ρ : Rn} {m : Led} {R : List D → Led → Prop} {p pos : Pos} {tg : Expr}
end
/-! ### mirrors -/
/-- code that the law never reaches -/
def noM : M D := fun _ _ _ => False
def zipX (d d2 : D) : M (List D) := fun m R _ => ∃ as bs, Seq d as ∧ Seq d2 bs ∧ as.length = bs.length ∧ R (zipD as bs) m
def zipS (d : D) : M (List D) := fun m R _ => ∃ ds rss n, (LstV m d ds ∨ d = .tup ds) ∧ SeqS ds rss ∧ rss ≠ [] ∧ (∀ r ∈ rss, r.length = n) ∧ R (colsD n rss) m
section
variable {X : CD} {a b e tg it : Expr} {ρ : Rn} {p p2 pos tpos : Pos} {mg : Str → Option Value} {c ca cb : M D}
end
end DL


namespace DL
open PySem PySem.Spec PySem.Calls PyProof.Rows L2 RZ
/-! ### a def with *rest -/
/-- the binding of a call's arguments, which may lay objects (the tuple of the rest) -/
def BindsV (s0 s : Shared) (fd : FuncData) (args : Args) (binds : List (Str × Value)) : Prop :=
  ∀ (M : Model) (A : Around) (E : Value → Shared → Prop) (Q : List (Str × Value) → Shared → Prop), Q binds s → wpAny M A (bindArgs fd args) Q E s0
structure FnOkV (P : Program) (w : World) (K : Frag) (mg : Str → Option Value) (base : Heap) (CX : CXT) (k : Nat) (f : Addr) (fd : FuncData) (ps : List Str) (sp : Sp) : Prop where
  len : ∀ vs H Q E, sp vs H Q E → vs.length = ps.length
  run : ∀ (A : Around) (outer : List PySem.Env) (s0 s : Shared) (H : Hp) (args : Args) (us : List Value) (vs : List V) (Q : VK) (E : XK), Room k A → K.In s0.heap → Env0 P w K mg base A outer s H → BindsV s0 s fd args (ps.zip us) → Vals vs us → sp vs H Q E →
    codeAny (model P w) A (.call (.ref f) args) (CR CX outer P w H s Q E) s0
theorem FnOkV.mono {P : Program} {w : World} {K : Frag} {mg : Str → Option Value} {base : Heap} {CX : CXT} {j k : Nat} {f : Addr} {fd : FuncData} {ps : List Str} {sp : Sp} (F : FnOkV P w K mg base CX j f fd ps sp) (h : j ≤ k) :
    FnOkV P w K mg base CX k f fd ps sp := ⟨F.len, fun A outer s0 s H args us vs Q E hr => F.run A outer s0 s H args us vs Q E (hr.mono h)⟩
section
variable {P : Program} {w : World} {K : Frag} {mg : Str → Option Value} {base : Heap}
/-- a def f(x, *rest), called with n values behind x -/
structure KnowsV (P : Program) (w : World) (K : Frag) (mg : Str → Option Value) (base : Heap) (k : Nat) (x : Str) (n : Nat) (sp : SpX) : Prop where
  fn : ∃ f fd ps, FnOkV P w K mg base (L2.CX P w) k f fd ps (liftX K mg sp) ∧ mg x = some (.ref f) ∧ PySem.W.keepIn K (.ref f) = true ∧ ps.length = 2 ∧ n ≤ 1000 ∧
    ∀ (s : Shared) (u : Value) (us : List Value), us.length = n → BindsV s { s with heap := s.heap.push (TObj us) } fd ⟨u :: us, []⟩ (ps.zip [u, .ref s.heap.objs.size])
theorem KnowsV.mono {P : Program} {w : World} {K : Frag} {mg : Str → Option Value} {base : Heap} {k j : Nat} {x : Str} {n : Nat} {sp : SpX} (G : KnowsV P w K mg base k x n sp) (h : k ≤ j) : KnowsV P w K mg base j x n sp := by
  obtain ⟨f, fd, ps, FO, r⟩ := G.fn
  exact ⟨f, fd, ps, FO.mono h, r⟩
end
section
variable {X : CD} {e : Expr} {es : List Expr} {ρ : Rn} {m : Led} {R : D → Led → Prop} {x : Str} {p pos : Pos} {k n : Nat} {sp : SpX} {E : XR}
end
/-- the values behind the first one come as a tuple -/
def varM (n : Nat) (sp : SpX) (ds : List D) : M D := fun m R E => ∃ d dr, ds = d :: dr ∧ dr.length = n ∧ sp [d, .tup dr] m R E
section
variable {X : CD} {e : Expr} {es : List Expr} {ρ : Rn} {x : Str} {p pos : Pos} {k n : Nat} {sp : SpX} {P : Program} {w : World} {K : Frag} {mg : Str → Option Value} {base : Heap} {c : M (List D)}
end
end DL


namespace DL
open PySem PySem.Spec PySem.Calls PyProof.Rows L2 RZ
/-! ### a, b, .. = a list; four names -/
section
variable {X : CD} {ρ : Rn} {m : Led} {pos : Pos}
end
def ut4 {α : Type} (d : D) (k : D → D → D → D → M α) : M α := fun m R E => ∃ a1 a2 a3 a4, d = .tup [a1, a2, a3, a4] ∧ k a1 a2 a3 a4 m R E
def ul2 {α : Type} (d : D) (k : D → D → M α) : M α := fun m R E => ∃ a1 a2, d = .lst [a1, a2] ∧ k a1 a2 m R E
def ul3 {α : Type} (d : D) (k : D → D → D → M α) : M α := fun m R E => ∃ a1 a2 a3, d = .lst [a1, a2, a3] ∧ k a1 a2 a3 m R E
def ul4 {α : Type} (d : D) (k : D → D → D → D → M α) : M α := fun m R E => ∃ a1 a2 a3 a4, d = .lst [a1, a2, a3, a4] ∧ k a1 a2 a3 a4 m R E
section
variable {X : CD} {body : List Stmt} {ρ : Rn} {σ τ : Type} {en : σ → Option Rn} {el : τ → Rn} {p0 q1 q2 q3 q4 : Pos} {x1 x2 x3 x4 : Str} {i1 i2 i3 i4 n0 : Nat} {d : D} {ρ1 : D → Rn} {ρ2 : D → D → Rn} {ρ3 : D → D → D → Rn} {ρ4 : D → D → D → D → Rn}
end
section
variable {P : Program} {w : World} {K : Frag} {mg : Str → Option Value} {base : Heap} {k n : Nat} {x qual : Str} {st : Stmt} {f : Addr} {fd : FuncData} {ps : List Str} {sp : SpX}
end
end DL


namespace DL
open PySem PySem.Spec PySem.Calls PyProof.Rows L2 RZ
/-! ### walks of lists that stand in the ledger -/
def Hold (a : Addr) (ds : List D) (m : Led) : Prop := ∃ n : Nat, m[n]? = some (a, MO.lst ds)
def GL (a : Addr) (n : Nat) (H : Hp) : Prop := ∃ xs, Rd H a (.lst xs) ∧ xs.length = n
def YL (K : Frag) (a : Addr) (ds0 ds : List D) (i : Nat) (H2 : Hp) (x : V) (H3 : Hp) : Prop := ∀ F2 m2, At K F2 m2 H2 → Hold a ds0 m2 → ∃ F3 d, ds[i]? = some d ∧ Step K F2 m2 H2 F3 m2 H3 ∧ Den K F3 x d
theorem Hold.read {K : Frag} {F H : Hp} {m : Led} {a : Addr} {ds : List D} (h : Hold a ds m) (at_ : At K F m H) : ∃ xs, H a = some (.lst xs) ∧ Dens K F xs ds := by
  obtain ⟨n, h⟩ := h
  obtain ⟨hh, ⟨xs, rfl, hx⟩, e⟩ := at_.get h
  exact ⟨xs, e, hx⟩
theorem Hold.gl {K : Frag} {F H : Hp} {m : Led} {a : Addr} {ds : List D} (h : Hold a ds m) (at_ : At K F m H) : GL a ds.length H := by
  obtain ⟨xs, e, hx⟩ := h.read at_
  exact ⟨xs, .inl e, hx.length⟩
structure IXL (X : CD) (tg it : Expr) (ρ : Rn) (m : Led) (R : Addr → List D → List D → Led → Prop) : Prop where
  run : ∀ F σ H, Env X F σ ρ → AtX X F m H →
  SI X tg it σ H fun J H1 => ∃ a ds0 ds F1 m1, Step X.K F m H F1 m1 H1 ∧ R a ds0 ds m1 ∧ Walk J ds.length (GL a ds0.length) (YL X.K a ds0 ds)
section
variable {X : CD} {c tg it e : Expr} {body : List Stmt} {ρ : Rn} {m : Led} {E : EndsD} {pos p tpos : Pos} {R : Addr → List D → List D → Led → Prop}
def ForIL (X : CD) (tg : Expr) (body : List Stmt) (ρ : Rn) (E : EndsD) (a : Addr) (ds0 ds : List D) (m1 : Led) : Prop := ∃ I : Nat → Rn → Led → Prop, I 0 ρ m1 ∧ (∀ i ρ' m', I i ρ' m' → Hold a ds0 m') ∧
  (∀ i d ρ' m', ds[i]? = some d → I i ρ' m' → GX X tg d ρ' m' fun ρ2 m2 => SX X body ρ2 m2 { E with nx := I (i + 1), ct := I (i + 1), bk := E.nx }) ∧ ∀ ρ' m', I ds.length ρ' m' → E.nx ρ' m'
end
/-! ### mirrors -/
def ledL (u : D) : M (List D) := fun m R _ => ∃ p ds, u = .ref p ∧ Hold p ds m ∧ R ds m
def hold (u : D) (ds : List D) : M Unit := fun m R _ => (∃ p, u = .ref p ∧ Hold p ds m) ∧ R () m
def forH {σ τ : Type} (u : D) (ds0 : List D) (f : D → σ → M (Fl σ σ)) : List D → σ → M (Fl σ τ)
  | [], s => bnd (hold u ds0) fun _ => ret (.nx s)
  | d :: ds, s => bnd (hold u ds0) fun _ => bnd (f d s) fun fl => match fl with
    | .nx s' => forH u ds0 f ds s'
    | .ct s' => forH u ds0 f ds s'
    | .bk s' => ret (.nx s')
    | .rt d => ret (.rt d)
structure IvL (X : CD) (tg it : Expr) (ρ : Rn) (c : M D) (g : List D → List D) : Prop where
  run : ∀ (m : Led) (R : D → List D → Led → Prop) (E : XR), XA X ρ E → c m (fun u m1 => ∃ p ds, u = .ref p ∧ Hold p ds m1 ∧ R u ds m1) E → IXL X tg it ρ m fun a ds0 ds m1 => ds = g ds0 ∧ Hold a ds0 m1 ∧ R (.ref a) ds0 m1
section
variable {X : CD} {tg it a : Expr} {ρ : Rn} {ca : M D} {mg : Str → Option Value} {p pos tpos : Pos} {rest body : List Stmt} {σ τ σ1 : Type} {en : σ → Option Rn} {el : τ → Rn} {e1 : σ1 → Rn} {g : List D → List D}
end
end DL


namespace DL
open PySem PySem.Spec PySem.Calls PyProof.Rows L2 RZ
/-! ### [elt for y in a list of the ledger] -/
section
variable {X : CD} {elt it : Expr} {scope : Scope} {ρ : Rn} {m : Led} {R : D → Led → Prop} {pos py : Pos} {y : Str} {j : Nat}
def CompIL (X : CD) (scope : Scope) (elt : Expr) (y : Str) (j : Nat) (ρ : Rn) (R : List D → Led → Prop) (a : Addr) (ds0 ds : List D) (m1 : Led) : Prop := ∃ I : Nat → List D → Led → Prop, I 0 [] m1 ∧ (∀ i acc m', I i acc m' → Hold a ds0 m') ∧
  (∀ i d acc m', ds[i]? = some d → I i acc m' → ∃ ρ2, SetAt ρ j y d ρ2 ∧ ∀ (s : Shared) (H0 : Hp) (C : Addr) (cl : List (Str × Addr)) (fp : List Addr),
    EX (X.blk s H0 scope (compEnvC scope cl C X.env) fp) elt ρ2 m' fun z m3 => acc.length < 100000 ∧ I (i + 1) (acc ++ [z]) m3) ∧ ∀ acc m', I ds.length acc m' → R acc m'
end
/-- a comprehension over a ledger list: it stands at each turn and at the end -/
def compH (u : D) (ds0 : List D) (f : D → M (Option D)) : List D → List D → M (List D)
  | [], acc => bnd (hold u ds0) fun _ => ret acc
  | d :: ds, acc => fun m R E => bnd (hold u ds0) (fun _ => f d) m (fun o m' => match o with
    | some z => acc.length < 100000 ∧ compH u ds0 f ds (acc ++ [z]) m' R E
    | none => compH u ds0 f ds acc m' R E) NoX
section
variable {X : CD} {elt it : Expr} {scope : Scope} {ρ : Rn} {pos py : Pos} {y : Str} {j : Nat} {ca : M D} {f : D → M (Option D)} {g : List D → List D}
end
end DL


namespace DL
open PySem PySem.Spec PySem.Calls PyProof.Rows L2 RZ
/-- C(..), the instance stays in the ledger -/
def makeK (cn : Str) (sp : SpX) (ds : List D) (m : Led) (R : D → Led → Prop) (E : Str → Option (Str × D) → Led → Prop) : Prop := ∀ x dx, sp (.ref x :: ds) (m ++ [(dx, .own x), (x, .ins cn dx [] [])])
  (fun d m2 => d = .non ∧ R (.ref x) m2) fun nm fd m2 => E nm fd (m2.take m.length)
section
variable {X : CD} {o e : Expr} {es : List Expr} {ρ : Rn} {m : Led} {R : D → Led → Prop} {E : Str → Option (Str × D) → Led → Prop} {cn mt f : Str} {p pos apos : Pos} {k n : Nat} {sp : SpX}
end
section
variable {X : CD} {e o a b cc it : Expr} {es : List Expr} {rest : List Stmt} {ρ ρ' : Rn} {p p2 pos pos2 apos cpos pos' : Pos} {c ca cb ce co : M D} {cs : M (List D)} {ct : M Bool} {cn mt f x : Str} {k n i : Nat} {sp : SpX} {mg : Str → Option Value} {P : Program} {w : World} {K : Frag} {base : Heap} {σ τ : Type} {en : σ → Option Rn} {el : τ → Rn} {kk : M (Fl σ τ)} {d : D}
end
end DL


namespace DL
open PySem PySem.Spec PyProof.Rows L2 RZ
section
variable {X : CD} {sts rest A B : List Stmt} {ρ : Rn} {σ τ : Type} {en : σ → Option Rn} {el : τ → Rn} {ct : M Bool} {t : Expr} {pos : Pos}
end
end DL


namespace DL
open PySem PySem.Spec PySem.Calls PyProof.Rows L2 RZ
/-! ### x in xs, plain data -/
noncomputable def eqN (h : Heap) (d : PyData) (y : Value) : Bool := @decide (∃ d' as, Reads h y d' as ∧ d'.plain = true ∧ PyData.eqv d' d = true) (Classical.propDecidable _)
def rInP (K : Frag) (neg : Bool) : R2 := fun x y H Q => ∃ p xs d es, y = .ref p ∧ (SqL K H p xs ∨ SqT K H p xs) ∧ Dp K H x d ∧ DpAll K H xs es ∧ d.plain = true ∧ (∀ e ∈ es, e.plain = true) ∧ d.depth ≤ 60 ∧ Q (.bl (if neg then !es.any (fun e => PyData.eqv e d) else es.any fun e => PyData.eqv e d)) H
section
variable {X : CD}
end
/-- x in a list or a tuple of plain data; the list may be one of the ledger -/
def inPB (neg : Bool) (x y : D) : M Bool := fun m R _ => ∃ (x' : D) (ds : List D), DW m x x' ∧ (LstV m y ds ∨ y = .tup ds) ∧ Sh 20 x' ∧ (∀ d ∈ ds, Sh 20 d) ∧ R (if neg then !ds.any (fun d => eqD d x') else ds.any fun d => eqD d x') m
section
variable {X : CD} {a b : Expr} {ρ : Rn} {pos : Pos} {ca cb : M D} {m : Led} {x y : D}
end
end DL


namespace DL
open PySem PySem.Spec PySem.Calls PyProof.Rows L2 RZ
/-! ### xs += ys, xs a list of the ledger -/
def rExt3 : R2 := fun x y H Q => ∃ l b xs zs, x = .ref l ∧ y = .ref b ∧ H l = some (.lst xs) ∧ Rd H b (.lst zs) ∧ xs.length + zs.length ≤ sizeLine ∧ Q (.ref l) (upd H l (.lst (xs ++ zs)))
section
variable {X : Cx}
end
def extM (a b : D) : M D := fun m R _ => ∃ p n ds es, a = .ref p ∧ m[n]? = some (p, .lst ds) ∧ LstV m b es ∧ ds.length + es.length ≤ 100000 ∧ R (.ref p) (m.set n (p, .lst (ds ++ es)))
section
variable {X : CD} {rest : List Stmt} {ρ : Rn} {σ τ : Type} {en : σ → Option Rn} {el : τ → Rn} {ce : M D} {e : Expr} {pos pos' : Pos} {x : Str} {i : Nat} {kd : D → M (Fl σ τ)} {ρd : D → Rn}
end
end DL


namespace DL
open PySem PySem.Spec PySem.Calls PyProof.Rows L2 RZ
/-! ### sum of a tuple of ints -/
section
variable {prog : Program} {w : World} {A : Around} {E : Value → Shared → Prop} {s : Shared} {l : Addr} {xs : Array (Int × Tok)}
end
def rSumT (K : Frag) : List V → Hp → VK → Prop := fun vs H Q => ∃ (a : Addr) (ns : List Int), vs = [V.ref a] ∧ SqT K H a (ns.map V.int) ∧ Q (.int ns.sum) H
section
variable {X : CD} {m : Led} {R : D → Led → Prop} {E : XR}
def sumQ (ds : List D) : M D := fun m R E => (∃ ns : List Int, ds = [.tup (ns.map D.int)] ∧ R (.int ns.sum) m) ∨ sumM ds m R E
end
end DL


namespace DL
open PySem PySem.Spec PySem.Calls PyProof.Rows L2 RZ

/-! ### {k: v for y, z in it if ..} -/
def CompDP (X : CD) (scope : Scope) (ifs : List Expr) (kx vx : Expr) (y : Str) (j : Nat) (z : Str) (k : Nat) (ρ : Rn) (R : List (List Int) → List D → Led → Prop) (ds : List D) (m1 : Led) : Prop := ∃ I : Nat → List (List Int) → List D → Led → Prop, I 0 [] [] m1 ∧
  (∀ i d ks vs m', ds[i]? = some d → I i ks vs m' → ∃ d1 d2 ρ1 ρ2, d = .tup [d1, d2] ∧ SetAt ρ j y d1 ρ1 ∧ SetAt ρ1 k z d2 ρ2 ∧ ∀ (s : Shared) (H0 : Hp) (C : Addr) (cl : List (Str × Addr)) (fp : List Addr),
    match ifs with
    | [] => EX (X.blk s H0 scope (compEnvC scope cl C X.env) fp) kx ρ2 m' fun kd m2 => ∀ (s : Shared) (H0 : Hp) (C : Addr) (cl : List (Str × Addr)) (fp : List Addr), EX (X.blk s H0 scope (compEnvC scope cl C X.env) fp) vx ρ2 m2 fun v m3 => PutD ks vs kd v fun ks vs => I (i + 1) ks vs m3
    | [c] => TX (X.blk s H0 scope (compEnvC scope cl C X.env) fp) c ρ2 m' fun b m1 => (b = true → ∀ (s : Shared) (H0 : Hp) (C : Addr) (cl : List (Str × Addr)) (fp : List Addr), EX (X.blk s H0 scope (compEnvC scope cl C X.env) fp) kx ρ2 m1 fun kd m2 => ∀ (s : Shared) (H0 : Hp) (C : Addr) (cl : List (Str × Addr)) (fp : List Addr), EX (X.blk s H0 scope (compEnvC scope cl C X.env) fp) vx ρ2 m2 fun v m3 => PutD ks vs kd v fun ks vs => I (i + 1) ks vs m3) ∧ (b = false → I (i + 1) ks vs m1)
    | _ => False) ∧ ∀ ks vs m', I ds.length ks vs m' → R ks vs m'
section
variable {X : CD} {kx vx it t : Expr} {scope : Scope} {ρ : Rn} {m : Led} {R : D → Led → Prop} {pos p0 p1 p2 : Pos} {y z : Str} {j k n0 : Nat} {ifs : List Expr} {f : D → M (Option (D × D))} {ci : M (List D)} {ck cv : D → D → M D} {ct : D → D → M Bool} {ρ3 : D → D → Rn}
def un2P (d : D) (f : D → D → M (Option (D × D))) : M (Option (D × D)) := fun m R E => ∃ a b, d = .tup [a, b] ∧ f a b m R E
structure CvDP (X : CD) (scope : Scope) (ifs : List Expr) (kx vx : Expr) (y : Str) (j : Nat) (z : Str) (k : Nat) (ρ : Rn) (f : D → M (Option (D × D))) : Prop where
  run : ∀ (d : D) (m : Led) (R : Option (D × D) → Led → Prop), f d m R NoX → ∃ d1 d2 ρ1 ρ2, d = .tup [d1, d2] ∧ SetAt ρ j y d1 ρ1 ∧ SetAt ρ1 k z d2 ρ2 ∧ ∀ (s : Shared) (H0 : Hp) (C : Addr) (cl : List (Str × Addr)) (fp : List Addr),
    match ifs with
    | [] => EX (X.blk s H0 scope (compEnvC scope cl C X.env) fp) kx ρ2 m fun kd m2 => ∀ (s : Shared) (H0 : Hp) (C : Addr) (cl : List (Str × Addr)) (fp : List Addr), EX (X.blk s H0 scope (compEnvC scope cl C X.env) fp) vx ρ2 m2 fun v m3 => R (some (kd, v)) m3
    | [c] => TX (X.blk s H0 scope (compEnvC scope cl C X.env) fp) c ρ2 m fun b m1 => (b = true → ∀ (s : Shared) (H0 : Hp) (C : Addr) (cl : List (Str × Addr)) (fp : List Addr), EX (X.blk s H0 scope (compEnvC scope cl C X.env) fp) kx ρ2 m1 fun kd m2 => ∀ (s : Shared) (H0 : Hp) (C : Addr) (cl : List (Str × Addr)) (fp : List Addr), EX (X.blk s H0 scope (compEnvC scope cl C X.env) fp) vx ρ2 m2 fun v m3 => R (some (kd, v)) m3) ∧ (b = false → R none m1)
    | _ => False
theorem CvDP.I (hc : CvDP X scope ifs kx vx y j z k ρ f) {ds : List D} {m : Led} {R : List (List Int) × List D → Led → Prop} {E : XR} (h : dcM f ds [] [] m R E) : CompDP X scope ifs kx vx y j z k ρ (fun ks vs m' => R (ks, vs) m') ds m := by
  refine ⟨fun i ks vs m' => dcM f (ds.drop i) ks vs m' R E, h, fun i d ks vs m' hd hI => ?_, fun ks vs m' hI => ?_⟩
  · dsimp only at hI
    rw [drop_at hd] at hI
    obtain ⟨d1, d2, ρ1, ρ2, e, h1, h1', h2⟩ := hc.run d m' _ hI
    refine ⟨d1, d2, ρ1, ρ2, e, h1, h1', fun s H0 C cl fp => ?_⟩
    have h5 := h2 s H0 C cl fp
    rcases ifs with _ | ⟨c, _ | ⟨_, _⟩⟩ <;> exact h5
  · dsimp only at hI
    rw [List.drop_length] at hI
    exact hI
end
end DL


namespace DL
open PySem PySem.Spec PySem.Calls PyProof.Rows L2 RZ
/-! ### x in xs, as a value -/
def inSM (neg : Bool) (x y : D) : M D := bnd (inSB neg x y) blM
section
variable {X : CD} {a b : Expr} {ρ : Rn} {pos : Pos} {ca cb : M D}
theorem ev_inS (ha : Ev X a ρ ca) (hb : Ev X b ρ cb) (hm : behindInMarks .In b = false := by first | exact nobehind _ (by decide) (by decide) | rfl | with_unfolding_all rfl) : Ev X (.Compare a [.In] [b] pos) ρ (bnd ca fun x => bnd cb fun y => inSM false x y) := ⟨fun m R E xa h =>
  x_cmp ((ha.run m _ E xa h).mono fun d1 m1 h1 => (hb.run m1 _ E xa h1).mono fun d2 m2 h2 => (inS_ok (E := E) op_in_seq (show inSB false d1 d2 m2 (fun k m' => R (.bl k) m') E from h2)).mono fun d m' ⟨k, e, r⟩ => by subst e; exact r) hm⟩
theorem inSM_i {neg : Bool} {i : Int} {ns : List Int} {y : D} {m : Led} {R : D → Led → Prop} {E : XR} (hy : LstV m y (ns.map D.int) ∨ y = .tup (ns.map D.int)) (h : R (.bl (if neg then !decide (i ∈ ns) else decide (i ∈ ns))) m) : inSM neg (.int i) y m R E := ⟨i, ns, rfl, hy, h⟩
end
end DL


namespace DL
open PySem PySem.Spec PySem.Calls PyProof.Rows L2 RZ

/-! ### displays of dicts with several keys, tuples of ints -/
section
variable {X : CD} {ρ : Rn} {m : Led} {pos : Pos}
def KVs (K : Frag) (F : Hp) : List (Value × Value) → List (List Int × D) → Prop
  | [], [] => True
  | (a, b) :: vs, (k, d) :: kvs => (∃ y, RelV y a ∧ Den K F y (keyD k)) ∧ (∃ z, RelV z b ∧ Den K F z d) ∧ KVs K F vs kvs
  | _, _ => False
theorem KVs.mono {K : Frag} {F F' : Hp} (e : Ex F F') : ∀ {vs : List (Value × Value)} {kvs : List (List Int × D)}, KVs K F vs kvs → KVs K F' vs kvs
  | [], [], _ => trivial
  | (_, _) :: _, (_, _) :: _, ⟨⟨y, h1, h2⟩, ⟨z, h3, h4⟩, h5⟩ => ⟨⟨y, h1, h2.mono e⟩, ⟨z, h3, h4.mono e⟩, KVs.mono e h5⟩
  | [], _ :: _, h => h.elim
  | _ :: _, [], h => h.elim
def keyK {α : Type} (d : D) (k : List Int → M α) : M α := fun m R E => ∃ kk, d = keyD kk ∧ k kk m R E
def prsM : List (M D × M D) → M (List (List Int × D))
  | [] => ret []
  | (ck, cv) :: r => bnd ck fun d => bnd cv fun v => keyK d fun k => bnd (prsM r) fun t => ret ((k, v) :: t)
def putNM (d : D) (kvs : List (List Int × D)) : M D := fun m R _ => match d with
  | .ref p => ∃ n, m[n]? = some (p, .dI [] []) ∧ (kvs.map (·.1)).Nodup ∧ R (.ref p) (m.set n (p, .dI (kvs.map (·.1)) (kvs.map (·.2))))
  | _ => False
inductive EvP (X : CD) (ρ : Rn) : List (Expr × Expr) → List (M D × M D) → Prop
  | nil : EvP X ρ [] []
  | cons {kx vx : Expr} {ck cv : M D} {ps : List (Expr × Expr)} {cs : List (M D × M D)} : Ev X kx ρ ck → Ev X vx ρ cv → EvP X ρ ps cs → EvP X ρ ((kx, vx) :: ps) ((ck, cv) :: cs)
theorem EvP.len {ps : List (Expr × Expr)} {cs : List (M D × M D)} (h : EvP X ρ ps cs) : ps.length = cs.length := by
  induction h with
  | nil => rfl
  | cons _ _ _ ih => simp [ih]
theorem KVs.len {K : Frag} {F : Hp} : ∀ {vs : List (Value × Value)} {kvs : List (List Int × D)}, KVs K F vs kvs → kvs.length = vs.length
  | [], [], _ => rfl
  | (_, _) :: _, (_, _) :: _, ⟨_, _, h5⟩ => by simp [KVs.len h5]
  | [], _ :: _, h => h.elim
  | _ :: _, [], h => h.elim
end
end DL


namespace DL
open PySem PySem.Spec PySem.Calls PyProof.Rows L2 RZ

/-! ### sorted(d): the keys of a dict, tuples of ints -/
section
variable {X : CD} {m : Led} {R : D → Led → Prop} {d : D} {ks : List (List Int)} {ds : List D} {b : Bool}
def sortH (b : Bool) (zs : List D) : M D := fun m R E => match zs with
  | [d] => ∃ (ks : List (List Int)) (ds : List D), DicV m d ks ds ∧ SrtOk ks ∧ ∀ ks' : List (List Int), ks'.Perm ks → ks'.Pairwise (fun a c => lexI c a = false) → RNewL R m (ks'.map keyD) b
  | _ => False
end
end DL


namespace DL
open PySem PySem.Spec PySem.Calls PyProof.Rows L2 RZ

/-! ### calls whose arguments are read as frozen: the whole ledger stays as it is -/
mutual
inductive Thw (m : Led) : D → D → Prop
  | same (d : D) : Thw m d d
  | lst {n : Nat} {a : Addr} {es es' : List D} : m[n]? = some (a, .lst es) → Thws m es es' → Thw m (.ref a) (.lst es')
  | dI {n : Nat} {a : Addr} {ks : List (List Int)} {es es' : List D} : m[n]? = some (a, .dI ks es) → Thws m es es' → Thw m (.ref a) (.dI ks es')
  | tup {es es' : List D} : Thws m es es' → Thw m (.tup es) (.tup es')
  | lstF {es es' : List D} : Thws m es es' → Thw m (.lst es) (.lst es')
inductive Thws (m : Led) : List D → List D → Prop
  | nil : Thws m [] []
  | cons {d d' : D} {es es' : List D} : Thw m d d' → Thws m es es' → Thws m (d :: es) (d' :: es')
end
theorem Thws.same (m : Led) : ∀ ds : List D, Thws m ds ds
  | [] => .nil
  | d :: ds => .cons (.same d) (Thws.same m ds)
inductive Apt (m : Led) : D → Prop
  | atom {d : D} (h : noL d = true) : Apt m d
  | tup {xs : List D} (h : ∀ x ∈ xs, Apt m x) : Apt m (.tup xs)
  | dI {ks : List (List Int)} {vs : List D} (hm : ∀ q ∈ m, ∃ es, q.2 = MO.lst es) (h : ∀ x ∈ vs, Apt m x) : Apt m (.dI ks vs)
  | lst {xs : List D} (hm : ∀ q ∈ m, ∀ es, q.2 = MO.lst es → es.length ≠ xs.length) (h : ∀ x ∈ xs, Apt m x) : Apt m (.lst xs)
section
variable {K : Frag} {F H : Hp} {m : Led}
theorem frzA_key (a : At K F m H) {n : Nat} {p : Addr} {o : MO} (h : m[n]? = some (p, o)) : frzA F m H p = H p := by
  unfold frzA
  rw [if_pos (List.mem_map.mpr ⟨_, List.mem_of_getElem? h, rfl⟩)]
mutual
theorem Thw.den (a : At K F m H) : ∀ {d d' : D}, Thw m d d' → ∀ {v : V}, Den K F v d → Den K (frzA F m H) v d'
  | _, _, .same d, v, q => q.mono (Step.frzA a).ex
  | _, _, .lst hm ht, v, q => by
    cases q
    obtain ⟨hh, ⟨xs, rfl, hx⟩, e⟩ := a.get hm
    exact .lst (.inl (by rw [frzA_key a hm]; exact e)) (Thws.den a ht hx)
  | _, _, .dI hm ht, v, q => by
    cases q
    obtain ⟨hh, ⟨o, xs, vs, rfl, h1, h2, h3, h4, h5⟩, e⟩ := a.get hm
    exact .dI (by rw [frzA_key a hm]; exact e) h1 h2 (fun x hx => (Step.frzA a).ex.sqT (h3 x hx)) h4 (Thws.den a ht h5)
  | _, _, .tup ht, v, q => by
    cases q with
    | tup h hs => exact .tup ((Step.frzA a).ex.sqT h) (Thws.den a ht hs)
  | _, _, .lstF ht, v, q => by
    cases q with
    | lst h hs => exact .lst ((Step.frzA a).ex.rd h) (Thws.den a ht hs)
theorem Thws.den (a : At K F m H) : ∀ {ds ds' : List D}, Thws m ds ds' → ∀ {vs : List V}, Dens K F vs ds → Dens K (frzA F m H) vs ds'
  | _, _, .nil, _, .nil => .nil
  | _, _, .cons h hs, _, .cons q qs => .cons (Thw.den a h q) (Thws.den a hs qs)
end
theorem dens_of {F F' : Hp} : ∀ {xs : List D} {vs : List V}, (∀ x ∈ xs, ∀ v, Den K F v x → Den K F' v x) → Dens K F vs xs → Dens K F' vs xs
  | [], _, _, .nil => .nil
  | x :: xs, _, h, .cons q qs => .cons (h x List.mem_cons_self _ q) (dens_of (fun y hy => h y (List.mem_cons_of_mem _ hy)) qs)
/-- what stands at the place of a cell of the ledger -/
theorem cell_at {F2 : Hp} (a : At K F m H) (ex : Ex (frzA F m H) F2) {b : Addr} (hb : b ∈ keys m) : ∃ o h, (b, o) ∈ m ∧ MDen K F b o h ∧ F2 b = some h := by
  obtain ⟨q, hq, rfl⟩ := List.mem_map.mp hb
  obtain ⟨h, h1, h2⟩ := a.led q hq
  refine ⟨q.2, h, hq, h1, ex _ _ ?_⟩
  unfold frzA
  rw [if_pos hb]
  exact h2
theorem cutA_rd {F2 : Hp} (a : At K F m H) (ex : Ex (frzA F m H) F2) {b : Addr} {zs : List V} (hl : ∀ q ∈ m, ∀ es, q.2 = MO.lst es → es.length ≠ zs.length) (h : Rd F2 b (.lst zs)) : Rd (DL.cutA F2 m) b (.lst zs) := by
  have nk : b ∉ keys m := fun hb => by
    obtain ⟨o, hh, ho, hd, e⟩ := cell_at a ex hb
    rcases h with h | ⟨o2, h⟩
    · rw [h] at e
      cases e
      cases o with
      | lst es =>
        obtain ⟨xs, q, hs⟩ := hd
        cases q
        exact hl _ ho es rfl hs.length.symm
      | ins nm dx ns ds => obtain ⟨C, fs, q, _⟩ := hd; cases q
      | own x => have q : HO.lst zs = HO.own x := hd; cases q
      | dI ks ds =>
        obtain ⟨o3, xs, vs, q, _⟩ := hd
        unfold objO at q
        cases q
      | dK ks ds => obtain ⟨kvs, q, _⟩ := hd; cases q
      | dO ks ds k d => obtain ⟨o3, xs, hh, kv, val, kV, vV, vs, q, _⟩ := hd; unfold objO at q; cases q
    · have := hd.ntp
      rw [h] at e
      cases e
      cases this
  have hc : DL.cutA F2 m b = F2 b := by unfold DL.cutA; rw [if_neg nk]
  rcases h with h | ⟨o2, h⟩
  · exact .inl (by rw [hc]; exact h)
  · exact .inr ⟨o2, by rw [hc]; exact h⟩
theorem cutA_obj {F2 : Hp} (a : At K F m H) (ex : Ex (frzA F m H) F2) {b : Addr} {o : Obj} (hl : ∀ q ∈ m, ∃ es, q.2 = MO.lst es) (h : F2 b = some (objO b o)) : DL.cutA F2 m b = some (objO b o) := by
  have nk : b ∉ keys m := fun hb => by
    obtain ⟨o1, hh, ho, hd, e⟩ := cell_at a ex hb
    obtain ⟨es, he⟩ := hl _ ho
    have he : o1 = .lst es := he
    subst he
    obtain ⟨xs, q, hs⟩ := hd
    rw [h] at e
    cases e
    unfold objO at q
    cases q
  unfold DL.cutA
  rw [if_neg nk]
  exact h
theorem Apt.den {F2 : Hp} (a : At K F m H) (ex : Ex (frzA F m H) F2) (nt : Nt F2 (DL.cutA F2 m)) {d : D} (h : Apt m d) : ∀ v, Den K F2 v d → Den K (DL.cutA F2 m) v d := by
  induction h with
  | atom h => exact fun v q => q.nt nt h
  | tup h ih =>
    intro v q
    cases q with
    | tup h1 hs => exact .tup (nt.sqT h1) (dens_of ih hs)
  | dI hm h ih =>
    intro v q
    cases q with
    | dI h1 h2 h3 h4 h5 hs => exact .dI (cutA_obj a ex hm h1) h2 h3 (fun x hx => nt.sqT (h4 x hx)) h5 (dens_of ih hs)
  | lst hm h ih =>
    intro v q
    cases q with
    | lst h1 hs => exact .lst (cutA_rd a ex (by rw [hs.length]; exact hm) h1) (dens_of ih hs)
end
def thwS (sp : SpX) : SpX := fun ds m R _ => ∃ ds', Thws m ds ds' ∧ sp ds' [] (fun r m2 => m2 = [] ∧ Apt m r ∧ R r m) fun _ _ _ => False
theorem FnOk.imp {P : Program} {w : World} {K : Frag} {mg : Str → Option Value} {base : Heap} {CX : CXT} {k : Nat} {f : Addr} {fd : FuncData} {ps : List Str} {sp sp' : Sp} (h : FnOk P w K mg base CX k f fd ps sp) (i : ∀ vs H Q E, sp' vs H Q E → sp vs H Q E) : FnOk P w K mg base CX k f fd ps sp' :=
  ⟨fun vs H Q E z => h.len vs H Q E (i vs H Q E z), fun A outer s H args us vs Q E hr e0 hb r z => h.run A outer s H args us vs Q E hr e0 hb r (i vs H Q E z)⟩
section
variable {P : Program} {w : World} {K : Frag} {mg : Str → Option Value} {base : Heap} {k : Nat} {x : Str} {n : Nat} {dd : List D} {ks : List Str} {sp : SpX}
end
end DL


namespace DL
open PySem PySem.Spec PySem.Calls PyProof.Rows L2 RZ

/-! ### list(range(a, b)) -/
section
variable {X : CD} {a b : Expr} {ρ : Rn} {m : Led} {p p2 pos pos2 : Pos} {mg : Str → Option Value} {ca cb : M D}
def lrgG2 (bb : Bool) (x y : D) : M D := fun m R _ => match x, y with
  | .int i, .int j => (-100000 ≤ i ∧ i ≤ 100000 ∧ -100000 ≤ j ∧ j ≤ 100000) ∧ RNewL R m (rangeD i (j - i).toNat) bb
  | _, _ => False
end
end DL


namespace DL
open PySem PySem.Spec PySem.Calls PyProof.Rows L2 RZ

/-! ### [elt for y in a list of the ledger if c]: frozen, or in the ledger itself -/
section
variable {X : CD} {elt it : Expr} {ifs : List Expr} {scope : Scope} {ρ : Rn} {m : Led} {R : D → Led → Prop} {pos py : Pos} {y : Str} {j : Nat}
def CompIL2 (X : CD) (scope : Scope) (ifs : List Expr) (elt : Expr) (y : Str) (j : Nat) (ρ : Rn) (R : List D → Led → Prop) (a : Addr) (ds0 ds : List D) (m1 : Led) : Prop := ∃ I : Nat → List D → Led → Prop, I 0 [] m1 ∧ (∀ i acc m', I i acc m' → Hold a ds0 m') ∧
  (∀ i d acc m', ds[i]? = some d → I i acc m' → ∃ ρ2, SetAt ρ j y d ρ2 ∧ ∀ (s : Shared) (H0 : Hp) (C : Addr) (cl : List (Str × Addr)) (fp : List Addr),
    match ifs with
    | [] => EX (X.blk s H0 scope (compEnvC scope cl C X.env) fp) elt ρ2 m' fun z m3 => acc.length < 100000 ∧ I (i + 1) (acc ++ [z]) m3
    | [c] => TX (X.blk s H0 scope (compEnvC scope cl C X.env) fp) c ρ2 m' fun k m2 => (k = true → ∀ (s : Shared) (H0 : Hp) (C : Addr) (cl : List (Str × Addr)) (fp : List Addr), EX (X.blk s H0 scope (compEnvC scope cl C X.env) fp) elt ρ2 m2 fun z m3 => acc.length < 100000 ∧ I (i + 1) (acc ++ [z]) m3) ∧ (k = false → I (i + 1) acc m2)
    | _ => False) ∧ ∀ acc m', I ds.length acc m' → R acc m'
end
section
variable {X : CD} {elt it : Expr} {ifs : List Expr} {scope : Scope} {ρ : Rn} {pos py : Pos} {y : Str} {j : Nat} {ca : M D} {f : D → M (Option D)} {g : List D → List D}
theorem IXL.mono {tg it : Expr} {m : Led} {R R' : Addr → List D → List D → Led → Prop} (h : IXL X tg it ρ m R) (q : ∀ a ds0 ds m1, R a ds0 ds m1 → R' a ds0 ds m1) : IXL X tg it ρ m R' :=
  ⟨fun F σ H en at_ => (h.run F σ H en at_).mono fun J H1 ⟨a, ds0, ds, F1, m1, st, r, w⟩ => ⟨a, ds0, ds, F1, m1, st, q _ _ _ _ r, w⟩⟩
theorem CompIL2.mono {R R' : List D → Led → Prop} {a : Addr} {ds0 ds : List D} {m1 : Led} (h : CompIL2 X scope ifs elt y j ρ R a ds0 ds m1) (q : ∀ acc m', R acc m' → R' acc m') : CompIL2 X scope ifs elt y j ρ R' a ds0 ds m1 := by
  obtain ⟨I, h1, h2, h3, h4⟩ := h
  exact ⟨I, h1, h2, h3, fun acc m' z => q _ _ (h4 acc m' z)⟩
variable {rest : List Stmt} {σ τ : Type} {en : σ → Option Rn} {el : τ → Rn} {ρd : D → Rn} {kd : D → M (Fl σ τ)} {x : Str} {i : Nat} {px spos : Pos}
end
/-! ### an expression or a test with one list of the ledger read as frozen -/
def stillA (d : D) (c : D → M D) : M D := fun m R _ => match d with
  | .ref a => ∃ (n : Nat) (ds ds' : List D), m[n]? = some (a, .lst ds) ∧ Thws m ds ds' ∧ c (.lst ds') [] (fun r m2 => m2 = [] ∧ Apt m r ∧ R r m) fun _ _ _ => False
  | d => c d m R fun _ _ _ => False
def stillT (d : D) (c : D → M Bool) : M Bool := fun m R _ => match d with
  | .ref a => ∃ (n : Nat) (ds ds' : List D), m[n]? = some (a, .lst ds) ∧ Thws m ds ds' ∧ c (.lst ds') [] (fun r m2 => m2 = [] ∧ R r m) fun _ _ _ => False
  | d => c d m R fun _ _ _ => False
section
variable {X : CD} {e : Expr} {ρ ρ' : Rn} {m : Led} {x : Str} {i n : Nat} {p : Addr} {ds ds' : List D} {d : D}
end
/-! ### cells of the ledger that are not needed any more: forgotten -/
def subS (sp : SpX) : SpX := fun ds m R E => sp ds m (fun d m2 => ∃ m3, m3.Sublist m2 ∧ R d m3) E
theorem At.sub2 {K : Frag} {F H : Hp} {m m3 : Led} (h : m3.Sublist m) (a : At K F m H) : At K F m3 H := ⟨a.sub, fun p hp => a.led p (h.subset hp), fun p hp => a.dis p (h.subset hp), (h.map (·.1)).nodup a.nod⟩
theorem Step.sub2 {K : Frag} {F F2 H H2 : Hp} {m m2 m3 : Led} (h : m3.Sublist m2) (s : Step K F m H F2 m2 H2) : Step K F m H F2 m3 H2 := ⟨s.at2.sub2 h, s.ex, s.keep, s.frF, fun x hx => s.frM x ((h.map (·.1)).subset hx)⟩
theorem liftX_sub {K : Frag} {mg : Str → Option Value} {sp : SpX} {vs : List V} {H : Hp} {Q : VK} {E : XK} (h : liftX K mg (subS sp) vs H Q E) : liftX K mg sp vs H Q E := by
  obtain ⟨F, m, ds, R, XR, hd, at_, hs, k1, k2⟩ := h
  exact ⟨F, m, ds, _, XR, hd, at_, hs, fun d m2 v F2 H2 ⟨m3, h3, r⟩ st q => k1 d m3 v F2 H2 r (st.sub2 h3) q, k2⟩
section
variable {P : Program} {w : World} {K : Frag} {mg : Str → Option Value} {base : Heap} {k : Nat} {x : Str} {n : Nat} {dd : List D} {ks : List Str} {sp : SpX}
theorem KnowsX.sub (G : KnowsX P w K mg base k x n dd sp) : KnowsX P w K mg base k x n dd (subS sp) := by
  obtain ⟨f, fd, ps, ds, dvs, FO, r⟩ := G.fn
  exact ⟨f, fd, ps, ds, dvs, FO.imp fun vs H Q E z => liftX_sub z, r⟩
theorem KnowsN.sub (G : KnowsN P w K mg base k x n ks sp) : KnowsN P w K mg base k x n ks (subS sp) := by
  obtain ⟨f, fd, ps, FO, r⟩ := G.fn
  exact ⟨f, fd, ps, FO.imp fun vs H Q E z => liftX_sub z, r⟩
end
end DL


namespace DL
open PySem PySem.Spec PySem.Calls PyProof.Rows L2 RZ
/-! ### zip(zip(*rows), costs): a zip over a zip and a list or tuple -/
section
variable {prog : Program} {w : World} {A : Around} {E : Value → Shared → Prop} {s : Shared}
end
structure Z2At (h : Heap) (b c : Nat) (rs : List (Bool × Addr)) (k : Bool) (l i : Nat) (g0 g1 f0 f1 : Value) : Prop where
  le : b + rs.length + 3 ≤ c
  inn : ZAt h b rs i g0 g1
  it : ItAt h k c l i
  ti : h.get? (c + 1) = some (TObj [.ref (b + rs.length + 2), .ref c])
  to : ∃ kept : List Value, kept.length = 2 ∧ h.get? (c + 2) = some (TObj kept)
  z : h.get? (c + 3) = some (ZObj f0 f1 (c + 1) (c + 2))
def Out2 (b c n a : Nat) : Prop := (a < b ∨ b + n + 3 ≤ a) ∧ (a < c ∨ c + 4 ≤ a)
section
variable {prog : Program} {w : World} {A : Around} {E : Value → Shared → Prop} {s : Shared}
/-- where the walk of the two iterators stands -/
structure Mid (hp hg : Heap) (b c : Nat) (rs : List (Bool × Addr)) (k : Bool) (l i j : Nat) (f0 f1 : Value) (xs : List Value) : Prop where
  z : hg.get? (c + 3) = some (ZObj f0 f1 (c + 1) (c + 2))
  ti : hg.get? (c + 1) = some (TObj [.ref (b + rs.length + 2), .ref c])
  inn : ∃ p0 p1, ZAt hg b rs (if 0 < j then i + 1 else i) p0 p1 ∧ F0 p0 ∧ (∃ q, p1 = .bool q)
  it : ItAt hg k c l (if 1 < j then i + 1 else i)
  sz : hg.objs.size = hp.objs.size + if 0 < j then 1 else 0
  out : ∀ a o, Out2 b c rs.length a → hp.get? a = some o → hg.get? a = some o
  new : 0 < j → hg.get? hp.objs.size = some (TObj xs)
variable {b c : Nat} {rs : List (Bool × Addr)} {k : Bool} {l i : Nat} {f0 f1 : Value} {xs items : List Value} {x : Value} {hp : Heap}
end
end DL


namespace DL
open PySem PySem.Spec PySem.Calls PyProof.Rows L2 RZ
section
variable {prog : Program} {w : World} {A : Around} {E : Value → Shared → Prop} {s : Shared} {b c : Nat} {rs : List (Bool × Addr)} {k : Bool} {l i : Nat} {f0 f1 g0 g1 : Value} {xs items : List Value} {x : Value} {hp : Heap}
end
section
variable {prog : Program} {w : World} {A : Around} {E : Value → Shared → Prop} {s : Shared}
end
end DL


namespace DL
open PySem PySem.Spec PySem.Calls PyProof.Rows L2 RZ
def fp2 (b c n : Nat) : List Addr := (List.range (n + 3)).map (fun j => b + j) ++ (List.range 4).map (fun j => c + j)
theorem mem_fp2 {b c n a : Nat} : (a ∈ fp2 b c n) ↔ ((b ≤ a ∧ a < b + (n + 3)) ∨ (c ≤ a ∧ a < c + 4)) := by
  unfold fp2
  rw [List.mem_append]
  exact or_congr mem_fp mem_fp
theorem Z2At.keep {h h' : Heap} {b c : Nat} {rs : List (Bool × Addr)} {k : Bool} {l i : Nat} {g0 g1 f0 f1 : Value} (Z : Z2At h b c rs k l i g0 g1 f0 f1) (kk : ∀ a ∈ fp2 b c rs.length, ∀ o, h.get? a = some o → h'.get? a = some o) : Z2At h' b c rs k l i g0 g1 f0 f1 := by
  obtain ⟨kept, e1, e2⟩ := Z.to
  exact ⟨Z.le, Z.inn.keep fun a ha => kk a (mem_fp2.mpr (.inl (mem_fp.mp ha))), Z.it.at fun o ho => kk _ (mem_fp2.mpr (by omega)) o ho, kk _ (mem_fp2.mpr (by omega)) _ Z.ti, ⟨kept, e1, kk _ (mem_fp2.mpr (by omega)) _ e2⟩, kk _ (mem_fp2.mpr (by omega)) _ Z.z⟩
theorem Z2At.there {h : Heap} {b c : Nat} {rs : List (Bool × Addr)} {k : Bool} {l i : Nat} {g0 g1 f0 f1 : Value} (Z : Z2At h b c rs k l i g0 g1 f0 f1) (a : Nat) (ha : a ∈ fp2 b c rs.length) : ∃ o, h.get? a = some o ∧ ∀ v, o.data ≠ .cell v := by
  rcases mem_fp2.mp ha with h1 | h1
  · exact Z.inn.there a h1
  · obtain ⟨kept, e1, e2⟩ := Z.to
    by_cases a0 : a = c
    · subst a0; exact Z.it.obj
    · by_cases a1 : a = c + 1
      · subst a1; exact ⟨_, Z.ti, fun v q => nomatch q⟩
      · by_cases a2 : a = c + 2
        · subst a2; exact ⟨_, e2, fun v q => nomatch q⟩
        · have a3 : a = c + 3 := by omega
          subst a3; exact ⟨_, Z.z, fun v q => nomatch q⟩
def IteZ2 (K : Frag) (rs : List (Bool × Addr)) (k : Bool) (l : Nat) : It :=
  ⟨fun i H => (∃ xs, Zrow K H rs i xs) ∧ ∃ ys x, SqK K H k l ys ∧ ys[i]? = some x,
   fun i H v H' => ∃ T T2 xs x, v = .ref T2 ∧ H T = none ∧ upd H T (.tup xs) T2 = none ∧ H' = upd (upd H T (.tup xs)) T2 (.tup [.ref T, x]) ∧ xs.length = rs.length ∧
     (∀ (j : Nat) (k : Bool) (l : Nat) ys, rs[j]? = some (k, l) → SqK K H k l ys → ∃ x, ys[i]? = some x ∧ xs[j]? = some x) ∧ ∀ ys, SqK K H k l ys → ys[i]? = some x,
   fun i H => ∃ k l ys, rs[0]? = some (k, l) ∧ SqK K H k l ys ∧ ys.length = i⟩
def Z2Tn (b c : Nat) (rs : List (Bool × Addr)) (k : Bool) (l i : Nat) (h : Heap) : Prop :=
  ∃ g0 g1 f0 f1, Z2At h b c rs k l i g0 g1 f0 f1 ∧ F0 g0 ∧ (∃ q, g1 = .bool q) ∧ F0 f0 ∧ (∃ q, f1 = .bool q) ∧ 0 < rs.length ∧ rs.length ≤ sizeLine ∧ (∀ (j : Nat) (k : Bool) (l : Nat), rs[j]? = some (k, l) → l < b) ∧ l < c ∧ (l < b ∨ b + rs.length + 3 ≤ l)
def iZipZ (K : Frag) (te te2 : TE) : TI := fun σ H R => te σ H fun v H1 => ∃ a rs, v = .ref a ∧ (SqT K H1 a (rs.map fun r => V.ref r.2) ∨ SqL K H1 a (rs.map fun r => V.ref r.2)) ∧ 0 < rs.length ∧ (∀ (j : Nat) (k : Bool) (l : Nat), rs[j]? = some (k, l) → ∃ ys, SqK K H1 k l ys) ∧
  te2 σ H1 fun v2 H2 => ∃ k l ys, v2 = .ref l ∧ SqK K H2 k l ys ∧ R (IteZ2 K rs k l) H2
section
variable {X : CD} {e e2 : Expr} {ρ : Rn} {m : Led} {R : List D → Led → Prop} {p p1 p2 pos pos1 : Pos} {tg : Expr}
end
/-! ### mirrors -/
def zipC (cs : List D) (d2 : D) : M (List D) := fun m R _ => ∃ bs, Seq d2 bs ∧ bs.length = cs.length ∧ R (zipD cs bs) m
section
variable {X : CD} {a b tg : Expr} {ρ : Rn} {p p1 p2 pos pos1 tpos : Pos} {mg : Str → Option Value} {ca cb : M D}
end
end DL


namespace DL
open PySem PySem.Spec PySem.Calls PyProof.Rows L2 RZ
/-! ### min of a tuple of ints -/
section
variable {prog : Program} {w : World} {A : Around} {E : Value → Shared → Prop} {s : Shared} {l : Addr}
end
section
variable {X : Cx}
def rMinT (K : PySem.W.Frag) : List V → Hp → VK → Prop := fun vs H Q => ∃ (a : Addr) (ns : List Int), vs = [V.ref a] ∧ SqT K H a (ns.map V.int) ∧ 0 < ns.length ∧ ∀ m, m ∈ ns → (∀ y, y ∈ ns → m ≤ y) → Q (.int m) H
end
section
variable {X : CD} {d : D} {m : Led} {R : D → Led → Prop}
/-- min of two ints, of a list of ints, of a tuple of ints -/
def minG (ds : List D) : M D := fun m R E => match ds with
  | [.tup xs] => ∃ ns : List Int, xs = ns.map D.int ∧ 0 < ns.length ∧ ∀ i, i ∈ ns → (∀ y ∈ ns, i ≤ y) → R (.int i) m
  | ds => minM ds m R E
end
end DL


namespace DL
open PySem PySem.Spec PySem.Calls PyProof.Rows L2 RZ
/-! ### starred and nested assign targets -/
section
variable {prog : Program} {w : World} {A : Around} {E : Value → Shared → Prop} {s : Shared}
end
def gStarL (K : PySem.W.Frag) (n i : Nat) (t : TGs) : TG := fun v σ H Q => ∃ a xs, v = .ref a ∧ SqL K H a xs ∧ n ≤ xs.length + 1 ∧ ∀ p, H p = none → t (xs.take i ++ [.ref p] ++ (xs.drop i).drop (xs.length + 1 - n)) σ (upd H p (.lst ((xs.drop i).take (xs.length + 1 - n)))) Q
section
variable {X : Cx} {pos sp : Pos}
end
section
variable {X : CD} {ρ : Rn} {m : Led} {pos sp : Pos}
end
/-! ### mirrors -/
def us3_0 {α : Type} (d : D) (k : D → D → D → M α) : M α := fun m R E => ∃ ds b c, d = .lst (ds ++ [b, c]) ∧ k (.lst ds) b c m R E
def us3_2 {α : Type} (d : D) (k : D → D → D → M α) : M α := fun m R E => ∃ a b ds, d = .lst (a :: b :: ds) ∧ k a b (.lst ds) m R E
def un14 {α : Type} (d : D) (k : D → D → D → D → D → M α) : M α := fun m R E => ∃ a1 a2 a3 a4 a5, d = .tup [a1, .tup [a2, a3, a4, a5]] ∧ k a1 a2 a3 a4 a5 m R E
section
variable {X : CD} {body : List Stmt} {ρ : Rn} {σ τ : Type} {en : σ → Option Rn} {el : τ → Rn} {p0 p1 q1 q2 q3 q4 q5 : Pos} {x1 x2 x3 x4 x5 : Str} {i1 i2 i3 i4 i5 n0 n1 : Nat} {d : D} {ρ1 : D → Rn} {ρ2 : D → D → Rn} {ρ3 : D → D → D → Rn} {ρ4 : D → D → D → D → Rn} {ρ5 : D → D → D → D → D → Rn}
end
end DL


namespace DL
open PySem PySem.Spec PySem.Calls PyProof.Rows L2 RZ

/-! ### d.items(), d.values(), walked -/
def Itxp (d : Addr) (o : Obj) (xs : List (List Int × Addr × Value)) (vs : List V) : It :=
  ⟨fun i H => H d = some (objO d o) ∧ i < xs.length, fun i H x H' => ∃ T y v, xs[i]? = some y ∧ vs[i]? = some v ∧ x = .ref T ∧ H T = none ∧ H' = upd H T (.tup [.ref y.2.1, v]), fun i H => H d = some (objO d o) ∧ xs.length ≤ i⟩
def Itxv (d : Addr) (o : Obj) (xs : List (List Int × Addr × Value)) (vs : List V) : It :=
  ⟨fun i H => H d = some (objO d o) ∧ i < xs.length, fun i H x H' => H' = H ∧ vs[i]? = some x, fun i H => H d = some (objO d o) ∧ xs.length ≤ i⟩
theorem vals_at {vs : List V} {xs : List (List Int × Addr × Value)} (hv : Vals vs (xs.map (·.2.2))) {i : Nat} (hi : i < xs.length) : ∃ v, vs[i]? = some v ∧ RelV v xs[i].2.2 := by
  have hl : vs.length = xs.length := by have := hv.length; simpa using this
  have hg : vs[i]? = some vs[i] := List.getElem?_eq_getElem (by omega)
  obtain ⟨u, hu, ru⟩ := hv.get hg
  rw [List.getElem?_map, List.getElem?_eq_getElem hi] at hu
  cases hu
  exact ⟨_, hg, ru⟩
section
variable {P : Program} {w : World} {K : PySem.W.Frag} {tg : Expr} {d : Addr} {o : Obj} {ep : Nat} {xs : List (List Int × Addr × Value)} {vs : List V}
theorem turn_Itxp {elts : List Expr} {kk : Nat} {tpos : Pos} (it : Addr) (hex : o.ExactDict) (hod : o.data = .dict (xs.map entI).toArray ep) (hv : Vals vs (xs.map (·.2.2))) : Turn P w K (.Tuple elts kk tpos) (Itxp d o xs vs) [it] it (fun i h => ∃ ok ov, IsItemIter h it d i xs.length ep ok ov) where
  mem := by simp
  obj := fun i h st b hb => by
    have e : b = it := by simpa using hb
    subst e
    obtain ⟨ok, ov, e⟩ := st
    exact ⟨_, e, fun v z => nomatch z⟩
  keep := fun i h h' st k => let ⟨ok, ov, e⟩ := st; ⟨ok, ov, k it (by simp) _ e⟩
  item := by
    intro X hP hw hK hc i pins s σ H E I hf st hg
    subst hP hw hK
    obtain ⟨hd, hi⟩ := hg
    have hgd := objO_get I.hok hd
    obtain ⟨v, hvv, ru⟩ := vals_at hv hi
    have hm : s.heap.DictRaw d (xs.map entI).toArray ep := ⟨o, hgd, hex, hod⟩
    have hsz : (xs.map entI).toArray.size = xs.length := by simp
    obtain ⟨ok, ov, he⟩ := st
    have hlt : it < s.heap.objs.size := Heap.lt_size he
    rw [← hsz] at he
    refine wpAny_pyNext_items_item_raw he hm (by rw [hsz]; exact hi) fun h' ho hT hz hk => ?_
    have ee : (xs.map entI).toArray[i]'(by rw [hsz]; exact hi) = entI xs[i] := by simp
    rw [ee] at ho hT
    refine ⟨_, rfl, wpAny_letOwnedTupleGo_items (s := { s with heap := h' }) ho fun h'' he' sb => ?_⟩
    have hT2 : h''.get? s.heap.objs.size = some { cls := .type "tuple", data := .seq #[(entI xs[i]).key, (entI xs[i]).val] } := (sb.2 _ (Nat.ne_of_gt hlt)).trans hT
    have new : ObjOk X.prog X.w (upd H s.heap.objs.size (.tup [.ref xs[i].2.1, v])) h'' s.heap.objs.size (.tup [.ref xs[i].2.1, v]) :=
      ⟨by show 2 ≤ sizeLine; decide, [(entI xs[i]).key, (entI xs[i]).val], .cons (show RelV (.ref xs[i].2.1) (Value.ref xs[i].2.1) from rfl) (.cons ru .nil), ⟨_, hT2, rfl, _, rfl⟩⟩
    have I1 : Inv X pins σ (upd H s.heap.objs.size (.tup [.ref xs[i].2.1, v])) { s with heap := h'' } :=
      I.turnedNew (t' := s.toks) (ch := [it]) (fun b ob hb e => (sb.2 b (by simpa using hb)).trans (hk b ob (by simpa using hb) e)) hf (Nat.le_refl _) new
    refine ⟨.ref s.heap.objs.size, _, I1, rfl, ⟨_, xs[i], v, List.getElem?_eq_getElem hi, hvv, rfl, I.hok.fresh (Nat.le_refl _), rfl⟩, ⟨(entI xs[i]).key, (entI xs[i]).val, ?_⟩, fun b hb => ?_⟩
    · rw [hsz] at he'; exact he'
    · have e : b = it := by simpa using hb
      rw [e, upd_ne (Nat.ne_of_lt hlt)]
      exact (hf it (by simp)).1
  done := by
    intro X hP hw hK hc i pins s σ H E I hf st hg
    subst hP hw hK
    obtain ⟨hd, hi⟩ := hg
    obtain ⟨f0, f1, f2, f3, f4, f5⟩ := hf it (by simp)
    have hgd := objO_get I.hok hd
    have hm : s.heap.DictRaw d (xs.map entI).toArray ep := ⟨o, hgd, hex, hod⟩
    have hsz : (xs.map entI).toArray.size = xs.length := by simp
    obtain ⟨ok, ov, he⟩ := st
    rw [← hsz] at he
    exact wpAny_pyNext_items_end_raw (I.ok.hd hc) he hm (by rw [hsz]; exact hi) fun h' eb => ⟨rfl, I.turned (t' := s.toks) (fun b ob hb e => eb b ob hb e) f0 f1 f3 f4 f5⟩
  self := fun A i s Q E st h => let ⟨_, _, e⟩ := st; PySem.W.kcp_self e h
theorem turn_Itxv (it : Addr) (hex : o.ExactDict) (hod : o.data = .dict (xs.map entI).toArray ep) (hv : Vals vs (xs.map (·.2.2))) : Turn P w K tg (Itxv d o xs vs) [it] it (fun i h => h.IsValIter it d i xs.length ep) where
  mem := by simp
  obj := fun i h st b hb => by
    have e : b = it := by simpa using hb
    subst e
    obtain ⟨oi, e, c, dd⟩ := st
    exact ⟨oi, e, fun v z => by rw [dd] at z; cases z⟩
  keep := fun i h h' st k => let ⟨oi, e, r⟩ := st; ⟨oi, k it (by simp) oi e, r⟩
  item := by
    intro X hP hw hK hc i pins s σ H E I hf st hg
    subst hP hw hK
    obtain ⟨hd, hi⟩ := hg
    obtain ⟨f0, f1, f2, f3, f4, f5⟩ := hf it (by simp)
    have hgd := objO_get I.hok hd
    obtain ⟨v, hvv, ru⟩ := vals_at hv hi
    have hm : s.heap.DictRaw d (xs.map entI).toArray ep := ⟨o, hgd, hex, hod⟩
    have hsz : (xs.map entI).toArray.size = xs.length := by simp
    rw [← hsz] at st
    refine wpAny_pyNext_values_item_raw st hm (by rw [hsz]; exact hi) fun h' st' sb => ?_
    have ee : (xs.map entI).toArray[i]'(by rw [hsz]; exact hi) = entI xs[i] := by simp
    rw [ee]
    have I1 : Inv X pins σ H { s with heap := h' } := I.turned (t' := s.toks) (fun b ob hb e => (sb.2 b hb).trans e) f0 f1 f3 f4 f5
    rw [hsz] at st'
    obtain ⟨oi, e, c, dd⟩ := id st'
    exact ⟨(entI xs[i]).val, rfl, go_of (s := { s with heap := h' }) e c dd (by decide) ⟨v, H, I1, ru, ⟨rfl, hvv⟩, st', fun b hb => (hf b hb).1⟩⟩
  done := by
    intro X hP hw hK hc i pins s σ H E I hf st hg
    subst hP hw hK
    obtain ⟨hd, hi⟩ := hg
    obtain ⟨f0, f1, f2, f3, f4, f5⟩ := hf it (by simp)
    have hgd := objO_get I.hok hd
    have hm : s.heap.DictRaw d (xs.map entI).toArray ep := ⟨o, hgd, hex, hod⟩
    have hsz : (xs.map entI).toArray.size = xs.length := by simp
    rw [← hsz] at st
    exact wpAny_pyNext_values_end_raw (I.ok.hd hc) st hm (by rw [hsz]; exact hi) fun h' eb => ⟨rfl, I.turned (t' := s.toks) (fun b ob hb e => eb b ob hb e) f0 f1 f3 f4 f5⟩
  self := fun A i s Q E st h => wpAny_pyIter_valiter st h
theorem walk_Itxp : Walk (Itxp d o xs vs) xs.length (fun H => H d = some (objO d o)) (YPair (fun i => xs[i]?.map fun y => .ref y.2.1) (fun i => vs[i]?)) := by
  refine ⟨fun _ _ hi q => ⟨q, hi⟩, fun _ q => ⟨q, Nat.le_refl _⟩, fun i H x H' _ _ y => ?_⟩
  obtain ⟨T, y, v, h1, h2, h3, h4, h5⟩ := y
  exact ⟨T, .ref y.2.1, v, h3, h4, h5, by simp [h1], h2⟩
theorem walk_Itxv : Walk (Itxv d o xs vs) xs.length (fun H => H d = some (objO d o)) (YAt vs) :=
  ⟨fun i _ hi q => ⟨q, hi⟩, fun _ q => ⟨q, Nat.le_refl _⟩, fun i H x H' hi q ⟨e, ex⟩ => ⟨e, ex⟩⟩
end
def iItemsX (td : TE) : TI := fun σ H R => td σ H fun x H1 => ∃ d o xs vs, x = .ref d ∧ H1 d = some (objO d o) ∧ DictObj d o xs ∧ Vals vs (xs.map (·.2.2)) ∧ R (Itxp d o xs vs) H1
def iValsX (td : TE) : TI := fun σ H R => td σ H fun x H1 => ∃ d o xs vs, x = .ref d ∧ H1 d = some (objO d o) ∧ DictObj d o xs ∧ Vals vs (xs.map (·.2.2)) ∧ R (Itxv d o xs vs) H1
section
variable {X : Cx} {tg e : Expr} {td : TE} {apos cpos : Pos}
theorem pi_itemsX {elts : List Expr} {kk : Nat} {tpos : Pos} (he : PE X e td) (hbase : attributeBase e "items" X.env (eval e X.env) = eval e X.env := by rfl) (hline : (apos.endLine == cpos.line) = true := by rfl) :
    PI X (.Tuple elts kk tpos) (.Call (.Attribute e "items" apos) [] [] cpos) (iItemsX td) := by
  refine ⟨fun pins s σ H R I h => ?_⟩
  refine wpAny_Call_method (T := "dict") (id := "dict.items") hbase rfl hline F.plainAttrs_dict F.slot_dict_items F.type_dict_items (thn (he.run pins s σ H _ I h) fun u s1 ⟨x, H1, I1, rx, d, o, xs, vs, ex, hd, dob, hv, q⟩ => ?_)
  subst ex
  obtain rfl : u = Value.ref d := rx
  have hgd := objO_get I1.hok hd
  obtain ⟨ep, hdt⟩ := dob.dat
  have hm : s1.heap.DictRaw d (xs.map entI).toArray ep := ⟨o, hgd, dob.ex, hdt⟩
  have hsz : (xs.map entI).toArray.size = xs.length := by simp
  refine ⟨hm.typeIs, fun b e => ?_, ?_⟩
  · cases e
    exact ⟨_, hgd, dob.ex.2.1⟩
  have I2 : Inv X pins σ H1 { s1 with heap := s1.heap.push { cls := .type "dict_items", data := .fields #[.ref d] } } := I1.kept (t' := s1.toks) fun b ob q => Heap.get?_push_of_some _ q
  have hm2 : (s1.heap.push { cls := .type "dict_items", data := .fields #[.ref d] }).DictRaw d (xs.map entI).toArray ep := hm.at fun o e => Heap.get?_push_of_some _ e
  have fin : wpAny (model X.prog X.w) X.A (pyIter (.ref s1.heap.objs.size)) (PIE X pins σ (.Tuple elts kk tpos) R) X.xe { s1 with heap := s1.heap.push { cls := .type "dict_items", data := .fields #[.ref d] } } := by
    refine wpAny_pyIter_items_raw (d := d) ⟨_, Heap.get?_push_size _ rfl, rfl, rfl⟩ hm2 (pi_one (tk := s1.toks) I2 _ (turn_Itxp _ dob.ex hdt hv) ⟨.none, .none, ?_⟩ q)
    rw [hsz]
    exact Heap.get?_push_size _ rfl
  show wpAny _ _ (callWith cpos (.builtin "dict.items") [.ref d] [] []) _ X.xe s1
  exact method_meetsIn F.slot_dict_items F.entry_dict_items rfl (PySem.evalArgs_none ⟨rfl, hm.typeIs, F.args_dict_items_1 _, _, meets_dict_items_raw d dob.sys, ⟨⟨_, _, hm⟩, fin⟩⟩)
theorem pi_valuesX (he : PE X e td) (hbase : attributeBase e "values" X.env (eval e X.env) = eval e X.env := by rfl) (hline : (apos.endLine == cpos.line) = true := by rfl) :
    PI X tg (.Call (.Attribute e "values" apos) [] [] cpos) (iValsX td) := by
  refine ⟨fun pins s σ H R I h => ?_⟩
  refine wpAny_Call_method (T := "dict") (id := "dict.values") hbase rfl hline F.plainAttrs_dict F.slot_dict_values F.type_dict_values (thn (he.run pins s σ H _ I h) fun u s1 ⟨x, H1, I1, rx, d, o, xs, vs, ex, hd, dob, hv, q⟩ => ?_)
  subst ex
  obtain rfl : u = Value.ref d := rx
  have hgd := objO_get I1.hok hd
  obtain ⟨ep, hdt⟩ := dob.dat
  have hm : s1.heap.DictRaw d (xs.map entI).toArray ep := ⟨o, hgd, dob.ex, hdt⟩
  have hsz : (xs.map entI).toArray.size = xs.length := by simp
  refine ⟨hm.typeIs, fun b e => ?_, ?_⟩
  · cases e
    exact ⟨_, hgd, dob.ex.2.1⟩
  have I2 : Inv X pins σ H1 { s1 with heap := s1.heap.push { cls := .type "dict_values", data := .fields #[.ref d] } } := I1.kept (t' := s1.toks) fun b ob q => Heap.get?_push_of_some _ q
  have hm2 : (s1.heap.push { cls := .type "dict_values", data := .fields #[.ref d] }).DictRaw d (xs.map entI).toArray ep := hm.at fun o e => Heap.get?_push_of_some _ e
  have fin : wpAny (model X.prog X.w) X.A (pyIter (.ref s1.heap.objs.size)) (PIE X pins σ tg R) X.xe { s1 with heap := s1.heap.push { cls := .type "dict_values", data := .fields #[.ref d] } } := by
    refine wpAny_pyIter_values_raw (d := d) ⟨_, Heap.get?_push_size _ rfl, rfl, rfl⟩ hm2 (pi_one (tk := s1.toks) I2 _ (turn_Itxv _ dob.ex hdt hv) ⟨_, Heap.get?_push_size _ rfl, rfl, ?_⟩ q)
    rw [hsz] <;> rfl
  show wpAny _ _ (callWith cpos (.builtin "dict.values") [.ref d] [] []) _ X.xe s1
  exact method_meetsIn F.slot_dict_values F.entry_dict_values rfl (PySem.evalArgs_none ⟨rfl, hm.typeIs, F.args_dict_values_1 _, _, meets_dict_values_raw d dob.sys, ⟨⟨_, _, hm⟩, fin⟩⟩)
end
/-- the pairs of a dict -/
def itemsD (ks : List (List Int)) (ds : List D) : List D := zipD (ks.map keyD) ds
section
variable {X : CD} {tg a : Expr} {ρ : Rn} {m : Led} {R : List D → Led → Prop} {apos cpos tpos : Pos}
theorem ix_itemsX {elts : List Expr} {kk : Nat} (h : EX X a ρ m fun d m1 => ∃ ks ds, d = .dI ks ds ∧ R (itemsD ks ds) m1) (hbase : attributeBase a "items" X.env (eval a X.env) = eval a X.env := by rfl) (hline : (apos.endLine == cpos.line) = true := by rfl) : IX X (.Tuple elts kk tpos) (.Call (.Attribute a "items" apos) [] [] cpos) ρ m R := .mk fun F σ H en at_ =>
  SI.of (pi_itemsX (pe_SE (e := a)) hbase hline) (h.go en at_ fun v d F1 m1 H1 s1 en1 q ⟨ks, ds, ed, r⟩ => by
    subst ed
    cases q with
    | dI ho hd hk ht hv hs =>
      subst hk
      refine ⟨_, _, _, _, rfl, s1.at2.sub _ _ ho, hd, hv, _, F1, m1, s1, r, ?_⟩
      have hl := hv.length
      have hl2 := hs.length
      rw [List.length_map] at hl
      have e : ∀ {zs : List (List Int × Addr × Value)}, (itemsD (zs.map (·.1)) ds).length = min zs.length ds.length := by
        intro zs
        unfold itemsD
        rw [zipD_len, List.length_map, List.length_map]
      rw [e, ← hl2, hl, Nat.min_self]
      refine Walk.mono walk_Itxp (fun H' e => e _ _ ho) fun i H' x H'' hi _ y => yd_pair (fun u w hu hw => ?_) y
      obtain ⟨d2, g2, q2⟩ := hs.getV hw
      rw [Option.map_eq_some_iff] at hu
      obtain ⟨z, hz, rfl⟩ := hu
      refine ⟨keyD z.1, d2, .tup (ht z (List.mem_of_getElem? hz)) Dens.of_ints, q2, ?_⟩
      unfold itemsD
      exact zipD_get (by rw [List.map_map, List.getElem?_map, hz]; rfl) g2)
theorem ix_valuesX (h : EX X a ρ m fun d m1 => ∃ ks ds, d = .dI ks ds ∧ R ds m1) (hbase : attributeBase a "values" X.env (eval a X.env) = eval a X.env := by rfl) (hline : (apos.endLine == cpos.line) = true := by rfl) : IX X tg (.Call (.Attribute a "values" apos) [] [] cpos) ρ m R := .mk fun F σ H en at_ =>
  SI.of (pi_valuesX (pe_SE (e := a)) hbase hline) (h.go en at_ fun v d F1 m1 H1 s1 en1 q ⟨ks, ds, ed, r⟩ => by
    subst ed
    cases q with
    | dI ho hd hk ht hv hs =>
      refine ⟨_, _, _, _, rfl, s1.at2.sub _ _ ho, hd, hv, ds, F1, m1, s1, r, ?_⟩
      have hl := hv.length
      rw [List.length_map] at hl
      rw [← hs.length, hl]
      exact walk_Itxv.mono (fun H' e => e _ _ ho) fun i H' x H'' _ _ y => yd_at hs y)
def itemsM (d : D) : M (List D) := fun m R _ => ∃ ks ds, d = .dI ks ds ∧ R (itemsD ks ds) m
def valuesM (d : D) : M (List D) := fun m R _ => ∃ ks ds, d = .dI ks ds ∧ R ds m
theorem iv_items {ca : M D} {elts : List Expr} {kk : Nat} (ha : Ev X a ρ ca) (hbase : attributeBase a "items" X.env (eval a X.env) = eval a X.env := by rfl) (hline : (apos.endLine == cpos.line) = true := by rfl) : Iv X (.Tuple elts kk tpos) (.Call (.Attribute a "items" apos) [] [] cpos) ρ (bnd ca itemsM) := ⟨fun m R E xa h => ix_itemsX (ha.run m _ E xa h) hbase hline⟩
theorem iv_values {ca : M D} (ha : Ev X a ρ ca) (hbase : attributeBase a "values" X.env (eval a X.env) = eval a X.env := by rfl) (hline : (apos.endLine == cpos.line) = true := by rfl) : Iv X tg (.Call (.Attribute a "values" apos) [] [] cpos) ρ (bnd ca valuesM) := ⟨fun m R E xa h => ix_valuesX (ha.run m _ E xa h) hbase hline⟩
end
end DL


namespace DL
open PySem PySem.Spec PySem.Calls PyProof.Rows L2 RZ

/-! ### list(d.values()) -/
def tListVals (te : TE) : TE := fun σ H Q => te σ H fun x H1 => ∃ d o xs vs, x = .ref d ∧ H1 d = some (objO d o) ∧ DictObj d o xs ∧ Vals vs (xs.map (·.2.2)) ∧ ∀ S, H1 S = none → Q (.ref S) (upd H1 S (.lst vs))
section
variable {X : Cx} {e : Expr} {te : TE} {apos cpos p pos : Pos}
end
section
variable {X : CD} {a : Expr} {ρ : Rn} {m : Led} {R : D → Led → Prop} {apos cpos p pos : Pos} {b : Bool}
def listV (b : Bool) (d : D) : M D := fun m R _ => ∃ ks ds, d = .dI ks ds ∧ RNewL R m ds b
end
end DL


namespace DL
open PySem PySem.Spec PySem.Calls PyProof.Rows L2 RZ

/-! ### == of equal data with dicts in it; == {} -/
def ShN : Nat → D → Prop
  | 0, d => NB 20 d
  | n + 1, d => NB 20 d ∨ (∃ ds, d = .tup ds ∧ ∀ x ∈ ds, ShN n x) ∨ (∃ ks vs, d = .dI ks vs ∧ ks.Nodup ∧ ∀ x ∈ vs, ShN n x)
section
variable {X : CD} {pins : List (Addr × Obj)} {σ : L2.St} {F H : Hp} {s : Shared} {m : Led}
end
section
variable {X : CD} {m : Led} {R : D → Led → Prop} {d1 d2 : D} {ks : List (List Int)} {vs : List D} {n : Nat}
def eqNB (ne : Bool) (a b : D) : M Bool := fun m R E => (∃ ks vs, Thw m a (.dI ks vs) ∧ Thw m b (.dI ks vs) ∧ ks.Nodup ∧ (∀ x ∈ vs, ShN 6 x) ∧ R (!ne) m) ∨
  (∃ ks vs, Thw m a (.dI ks vs) ∧ Thw m b (.dI [] []) ∧ R (if ne then !ks.isEmpty else ks.isEmpty) m) ∨ cmpB (if ne then .NotEq else .Eq) a b m R E
end
section
variable {X : CD} {a b : Expr} {ρ : Rn} {ca cb : M D} {pos : Pos}
def eqNM (ne : Bool) (a b : D) : M D := fun m R E => eqNB ne a b m (fun k m' => R (.bl k) m') E
end
end DL


namespace DL
open PySem PySem.Spec PySem.Calls PyProof.Rows L2 RZ

/-! ### x = [elt for y in a dict of the ledger]: the dict frozen for the while -/
section
variable {X : CD} {elt it : Expr} {ifs : List Expr} {scope : Scope} {ρ ρ' : Rn} {m : Led} {pos py px spos : Pos} {y x x0 : Str} {j i i0 n : Nat} {E : EndsD} {p : Addr} {ks : List (List Int)} {ds : List D}
variable {rest : List Stmt} {σ τ : Type} {en : σ → Option Rn} {el : τ → Rn} {ρu ρd : D → Rn} {kd : D → M (Fl σ τ)} {ci : D → M (List D)} {f : D → D → M (Option D)} {d0 : D}
end
end DL


namespace DL
open PySem PySem.Spec PySem.Calls PyProof.Rows L2 RZ

/-! ### == and != of equal data with lists, tuples and dicts in one another, all read as frozen -/
def ShG : Nat → D → Prop
  | 0, d => NB 20 d
  | n + 1, d => NB 20 d ∨ (∃ ds, d = .tup ds ∧ ∀ x ∈ ds, ShG n x) ∨ (∃ ds, d = .lst ds ∧ ∀ x ∈ ds, ShG n x) ∨ (∃ ks vs, d = .dI ks vs ∧ ks.Nodup ∧ ∀ x ∈ vs, ShG n x)
theorem ShG.nb {n : Nat} {d : D} (h : NB 20 d) : ShG n d := by
  cases n with
  | zero => exact h
  | succ n => exact .inl h
theorem ShG.tup {n : Nat} {ds : List D} (h : ∀ x ∈ ds, ShG n x) : ShG (n + 1) (.tup ds) := .inr (.inl ⟨_, rfl, h⟩)
theorem ShG.lst {n : Nat} {ds : List D} (h : ∀ x ∈ ds, ShG n x) : ShG (n + 1) (.lst ds) := .inr (.inr (.inl ⟨_, rfl, h⟩))
theorem ShG.dI {n : Nat} {ks : List (List Int)} {vs : List D} (nd : ks.Nodup) (h : ∀ x ∈ vs, ShG n x) : ShG (n + 1) (.dI ks vs) := .inr (.inr (.inr ⟨_, _, rfl, nd, h⟩))
section
variable {X : CD} {pins : List (Addr × Obj)} {σ : L2.St} {F H : Hp} {s : Shared} {m : Led}
/-- the two answers, with room for n steps -/
def BothG (A : Around) (s : Shared) (u v : Value) : Prop := ∀ (prog : Program) (w : World) (E : Value → Shared → Prop) (Q : Value → Shared → Prop), (Q (.bool true) s → wpAny (model prog w) A (compareOp .Eq u v) Q E s) ∧ (Q (.bool false) s → wpAny (model prog w) A (compareOp .NotEq u v) Q E s)
end
section
variable {X : CD} {m : Led} {R : D → Led → Prop} {d1 d2 d : D} {n : Nat}
def eqGB (ne : Bool) (a b : D) : M Bool := fun m R E => (∃ d, Thw m a d ∧ Thw m b d ∧ ShG 9 d ∧ R (!ne) m) ∨
  (∃ ks vs, Thw m a (.dI ks vs) ∧ Thw m b (.dI [] []) ∧ R (if ne then !ks.isEmpty else ks.isEmpty) m) ∨ cmpB (if ne then .NotEq else .Eq) a b m R E
end
section
variable {X : CD} {a b : Expr} {ρ : Rn} {ca cb : M D} {pos : Pos}
def eqGM (ne : Bool) (a b : D) : M D := fun m R E => eqGB ne a b m (fun k m' => R (.bl k) m') E
end
end DL


namespace DL
open PySem PySem.Spec PySem.Calls PyProof.Rows L2 RZ

/-! ### or, and as values, by truth -/
section
variable {X : CD} {a b : Expr} {ρ : Rn} {m : Led} {R : D → Led → Prop} {rest : List Expr} {pos : Pos} {ca cb : M D}
def orT (c : M D) (d : D) : M D := fun m R E => ∃ k, TruD m d k ∧ iteM k (ret d) c m R E
def andT (c : M D) (d : D) : M D := fun m R E => ∃ k, TruD m d k ∧ iteM k c (ret d) m R E
end
end DL


namespace DL
open PySem PySem.Spec PySem.Calls PyProof.Rows L2 RZ

/-! ### x in o (own class), as a value -/
def inOM (cn : Str) (sp : SpX) (neg : Bool) (x y : D) : M D := bnd (inOB cn sp neg x y) blM
section
variable {X : CD} {a b it tg : Expr} {ρ : Rn} {pos : Pos} {c ca cb : M D} {cn fld : Str} {k n : Nat} {sp : SpX} {mg : Str → Option Value} {P : Program} {w : World} {K : Frag} {base : Heap}
end
end DL


namespace DL
open PySem PySem.Spec PySem.Calls PyProof.Rows L2 RZ

/-! ### xs.pop() -/
theorem Dens.dropLast {K : Frag} {F : Hp} : ∀ {vs : List V} {ds : List D}, Dens K F vs ds → Dens K F vs.dropLast ds.dropLast
  | _, _, .nil => .nil
  | _, _, .cons _ .nil => .nil
  | _, _, .cons q (.cons q2 t) => .cons q (Dens.dropLast (.cons q2 t))
section
variable {X : CD} {m : Led} {R : D → Led → Prop} {E : XR} {d y v : D} {ds : List D} {a : Addr} {n : Nat}
def pop0M (d : D) : M D := fun m R _ => match d with
  | .ref a => ∃ (n : Nat) (ds : List D) (v : D), m[n]? = some (a, .lst ds) ∧ ds[ds.length - 1]? = some v ∧ R v (m.set n (a, .lst ds.dropLast))
  | _ => False
end
section
variable {X : CD} {o : Expr} {ρ : Rn} {co : M D} {apos cpos : Pos}
end
/-! ### list(d.values()), d perhaps of the ledger -/
section
variable {X : CD} {a : Expr} {ρ : Rn} {m : Led} {R : D → Led → Prop} {apos cpos p pos : Pos} {b : Bool}
def listVW (b : Bool) (d : D) : M D := fun m R _ => ∃ ks ds, DicV m d ks ds ∧ RNewL R m ds b
end
end DL


namespace DL
open PySem PySem.Spec PySem.Calls PyProof.Rows L2 RZ

/-! ### a list of lists of the ledger that is not changed any more: the rows are frozen, and the list -/
inductive FrzR : Led → List (Addr × D) → Led → Prop
  | nil (m : Led) : FrzR m [] m
  | cons {m m' : Led} {i : Nat} {a : Addr} {ds : List D} {T : List (Addr × D)} : m[i]? = some (a, .lst ds) → FrzR (m.eraseIdx i) T m' → FrzR m ((a, .lst ds) :: T) m'
inductive TDs (T : List (Addr × D)) : List D → List D → Prop
  | nil : TDs T [] []
  | keep {d : D} {ds es : List D} : TDs T ds es → TDs T (d :: ds) (d :: es)
  | sub {a : Addr} {d : D} {ds es : List D} : (a, d) ∈ T → TDs T ds es → TDs T (.ref a :: ds) (d :: es)
section
variable {K : Frag} {F H : Hp} {m m1 : Led} {T : List (Addr × D)}
theorem FrzR.step (h : FrzR m T m1) : ∀ {F : Hp}, At K F m H → ∃ F2, Step K F m H F2 m1 H ∧ ∀ q ∈ T, Den K F2 (.ref q.1) q.2 := by
  induction h with
  | nil m => exact fun {F} a => ⟨F, Step.refl a, fun q hq => (List.not_mem_nil hq).elim⟩
  | cons hm _ ih =>
    intro F a
    obtain ⟨F2, s2, q2⟩ := Step.freeze a hm
    obtain ⟨F3, s3, q3⟩ := ih s2.at2
    refine ⟨F3, s2.trans s3, fun q hq => ?_⟩
    rcases List.mem_cons.mp hq with rfl | hq
    · exact q2.mono s3.ex
    · exact q3 q hq
end
def frzdM (d : D) : M D := fun m R _ => match d with
  | .ref p => ∃ (T : List (Addr × D)) (m1 : Led) (n : Nat) (ds es : List D), FrzR m T m1 ∧ m1[n]? = some (p, .lst ds) ∧ TDs T ds es ∧ R (.lst es) (m1.eraseIdx n)
  | _ => False
section
variable {X : CD} {ρ : Rn} {x : Str} {i : Nat} {rest : List Stmt} {σ τ : Type} {en : σ → Option Rn} {el : τ → Rn} {kd : D → M (Fl σ τ)} {ρd : D → Rn} {d : D}
end
end DL


namespace DL
open PySem PySem.Spec PySem.Calls PyProof.Rows L2 RZ

/-! ### a tuple with lists of the ledger that are not changed any more: the lists are frozen -/
def frztM (d : D) : M D := fun m R _ => match d with
  | .tup ds => ∃ (T : List (Addr × D)) (m1 : Led) (es : List D), FrzR m T m1 ∧ TDs T ds es ∧ R (.tup es) m1
  | _ => False
section
variable {X : CD} {ρ ρ' : Rn} {x : Str} {i : Nat} {rest : List Stmt} {σ τ : Type} {en : σ → Option Rn} {el : τ → Rn} {kd : D → M (Fl σ τ)} {ρd : D → Rn} {d : D}
end
theorem TDs.refl (T : List (Addr × D)) : ∀ ds : List D, TDs T ds ds
  | [] => .nil
  | _ :: ds => .keep (TDs.refl T ds)
section
variable {P : Program} {w : World} {K : Frag} {mg : Str → Option Value} {base : Heap}
end
end DL


namespace DL
open PySem PySem.Spec PySem.Calls PyProof.Rows L2 RZ

/-! ### [elt for y, z in a list of the ledger if c] -/
section
variable {X : CD} {elt it : Expr} {scope : Scope} {ρ : Rn} {m : Led} {R : D → Led → Prop} {pos p0 p1 p2 : Pos} {y z : Str} {j k n0 : Nat}
def CompILP (X : CD) (scope : Scope) (ifs : List Expr) (elt : Expr) (y : Str) (j : Nat) (z : Str) (k : Nat) (ρ : Rn) (R : List D → Led → Prop) (a : Addr) (ds0 ds : List D) (m1 : Led) : Prop := ∃ I : Nat → List D → Led → Prop, I 0 [] m1 ∧ (∀ i acc m', I i acc m' → Hold a ds0 m') ∧
  (∀ i d acc m', ds[i]? = some d → I i acc m' → ∃ d1 d2 ρ1 ρ2, d = .tup [d1, d2] ∧ SetAt ρ j y d1 ρ1 ∧ SetAt ρ1 k z d2 ρ2 ∧ ∀ (s : Shared) (H0 : Hp) (C : Addr) (cl : List (Str × Addr)) (fp : List Addr),
    match ifs with
    | [] => EX (X.blk s H0 scope (compEnvC scope cl C X.env) fp) elt ρ2 m' fun z m3 => acc.length < 100000 ∧ I (i + 1) (acc ++ [z]) m3
    | [c] => TX (X.blk s H0 scope (compEnvC scope cl C X.env) fp) c ρ2 m' fun k m2 => (k = true → ∀ (s : Shared) (H0 : Hp) (C : Addr) (cl : List (Str × Addr)) (fp : List Addr), EX (X.blk s H0 scope (compEnvC scope cl C X.env) fp) elt ρ2 m2 fun z m3 => acc.length < 100000 ∧ I (i + 1) (acc ++ [z]) m3) ∧ (k = false → I (i + 1) acc m2)
    | _ => False) ∧ ∀ acc m', I ds.length acc m' → R acc m'
end
section
variable {X : CD} {elt it : Expr} {ifs : List Expr} {scope : Scope} {ρ : Rn} {pos p0 p1 p2 : Pos} {y z : Str} {j k n0 : Nat} {ca : M D} {f : D → M (Option D)} {g : List D → List D}
end
end DL


namespace DL
open PySem PySem.Spec PyProof.Rows L2
/-! ### o[i] op= e, where o is a ledger list -/
section
variable {X : CD} {o ix e : Expr} {ρ : Rn} {m : Led} {E : EndsD} {tpos pos : Pos} {op : Operator}
def augSM (op : Operator) (o i : D) (e : M D) : M Unit := fun m R E => ∃ (n : Nat) (a : Addr) (j : Nat) (ds : List D) (x : D), o = .ref a ∧ i = .int (j : Int) ∧ m[n]? = some (a, .lst ds) ∧ ds[j]? = some x ∧ bnd e (fun y => bnd (inplM op x y) fun z => stM o i z) m R E
end
/-! ### None, or a tuple whose lists are frozen -/
def frzoM (d : D) : M D := fun m R E => match d with
  | .non => R .non m
  | _ => frztM d m R E
end DL


namespace DL
open PySem PySem.Spec PySem.Calls PyProof.Rows L2 RZ

/-! ### list(d.items()): a dict as it lies (its keys may be tuples) -/
section
variable {prog : Program} {w : World} {A : Around} {E : Value → Shared → Prop} {s : Shared}
def RitSt (h : Heap) (it d S : Addr) (i n ep : Nat) : Prop :=
  (i = 0 ∧ ∃ ok ov, IsItemIter h it d 0 n ep ok ov) ∨ ∃ ok ov a f oa, PySem.W.KdxIt h it d i n ep ok ov a f ∧ h.get? a = some oa ∧ a ≠ it ∧ a ≠ S
theorem RitSt.keep {h h' : Heap} {it d S : Addr} {i n ep : Nat} (x : RitSt h it d S i n ep) (hk : ∀ b o, b ≠ S → h.get? b = some o → h'.get? b = some o) (hI : it ≠ S) : RitSt h' it d S i n ep := by
  rcases x with ⟨e, ok, ov, hit⟩ | ⟨ok, ov, a, f, oa, hit, ha, hai, haS⟩
  · exact .inl ⟨e, ok, ov, hk _ _ hI hit⟩
  · exact .inr ⟨ok, ov, a, f, oa, hk _ _ hI hit, hk _ _ haS ha, hai, haS⟩
structure RitG (es : Array DictEntry) (lo : Addr) (h : Heap) (as : List Addr) : Prop where
  rise : as.Pairwise (· < ·)
  above : ∀ a ∈ as, lo < a
  pairs : ∀ (j : Nat) (a : Addr), as[j]? = some a → ∃ hj : j < es.size, h.get? a = some { cls := .type "tuple", data := .seq #[es[j].key, es[j].val] }
theorem RitG.there {es : Array DictEntry} {lo : Addr} {h : Heap} {as : List Addr} (g : RitG es lo h as) {a : Addr} (ha : a ∈ as) : a < h.objs.size := by
  obtain ⟨j, hj⟩ := List.mem_iff_getElem?.mp ha
  obtain ⟨_, e⟩ := g.pairs j a hj
  exact Heap.lt_size e
end
section
variable {prog : Program} {w : World} {A : Around} {E : Value → Shared → Prop} {s : Shared} {R : Result → Shared → Prop} {es : Array DictEntry} {ep : Nat}
end
section
variable {prog : Program} {w : World} {A : Around} {E : Value → Shared → Prop} {s : Shared} {r d : Addr} {es : Array DictEntry} {ep : Nat}
end
/-! the tuples laid -/
def putQ : Hp → List Addr → List (V × V) → Hp
  | H, a :: as, p :: ps => putQ (upd H a (.tup [p.1, p.2])) as ps
  | H, _, _ => H
def tListIts (te : TE) : TE := fun σ H Q => te σ H fun x H1 => ∃ d o xs vs, x = .ref d ∧ H1 d = some (objO d o) ∧ DictObj d o xs ∧ Vals vs (xs.map (·.2.2)) ∧
  ∀ S as, H1 S = none → (∀ t ∈ as, H1 t = none) → as.Nodup → S ∉ as → as.length = xs.length → Q (.ref S) (upd (putQ H1 as ((xs.map fun y => V.ref y.2.1).zip vs)) S (.lst (as.map V.ref)))
section
variable {X : Cx} {e : Expr} {te : TE} {apos cpos p pos : Pos}
end
section
variable {X : CD} {a : Expr} {ρ : Rn} {m : Led} {R : D → Led → Prop} {apos cpos p pos : Pos} {b : Bool}
def listIW (b : Bool) (d : D) : M D := fun m R _ => ∃ ks ds, DicV m d ks ds ∧ RNewL R m ((ks.zip ds).map pairD) b
end
/-! ### a tuple told by an expression, whose ledger dict is frozen for good -/
def frztD (d : D) : M D := fun m R _ => match d with
  | .tup ds => ∃ (n : Nat) (p : Addr) (ks : List (List Int)) (vs es : List D), m[n]? = some (p, .dI ks vs) ∧ TDs [(p, .dI ks vs)] ds es ∧ R (.tup es) (m.eraseIdx n)
  | _ => False
section
variable {X : CD} {ρ : Rn} {e : Expr} {c : M D}
end
end DL


namespace DL
open PySem PySem.Spec PySem.Calls PyProof.Rows L2 RZ

/-! ### dict(pairs) where a key may stand twice: its last value holds -/
def putK (acc : List (List Int) × List D) (p : List Int × D) : List (List Int) × List D := if p.1 ∈ acc.1 then (acc.1, acc.2.set (acc.1.idxOf p.1) p.2) else (acc.1 ++ [p.1], acc.2 ++ [p.2])
def putAll (kvs : List (List Int × D)) : List (List Int) × List D := kvs.foldl putK ([], [])
section
variable {X : CD} {m : Led} {R : D → Led → Prop} {d : D} {b : Bool}
end
def dictU (b : Bool) (ds : List D) : M D := fun m R _ => match ds with
  | [d] => ∃ kvs : List (List Int × D), LstV m d (kvs.map pairD) ∧ kvs.length ≤ 100000 ∧ RNew R m (putAll kvs).1 (putAll kvs).2 b
  | _ => False
end DL


namespace DL
open PySem PySem.Spec PySem.Calls PyProof.Rows L2 RZ

/-! ### d.pop(k), d of the ledger, the key there -/
theorem Vals.eraseIdxV : ∀ {vs : List V} {us : List Value} (i : Nat), Vals vs us → Vals (vs.eraseIdx i) (us.eraseIdx i)
  | _, _, _, .nil => .nil
  | _, _, 0, .cons _ t => t
  | _, _, i + 1, .cons q t => .cons q (Vals.eraseIdxV i t)
theorem map_del {α β : Type} (f : α → β) : ∀ (l : List α) (i : Nat), (l.eraseIdx i).map f = (l.map f).eraseIdx i
  | [], _ => rfl
  | _ :: _, 0 => rfl
  | a :: l, i + 1 => by
    show f a :: (l.eraseIdx i).map f = f a :: (l.map f).eraseIdx i
    rw [map_del f l i]
theorem DicX.del {K : Frag} {F : Hp} {xs : List (List Int × Addr × Value)} {ks : List (List Int)} {ds : List D} (h : DicX K F xs ks ds) (i : Nat) : DicX K F (xs.eraseIdx i) (ks.eraseIdx i) (ds.eraseIdx i) := by
  obtain ⟨vs, rfl, h2, h3, h4⟩ := h.ex
  refine ⟨vs.eraseIdx i, ?_, fun x hx => h2 x (List.mem_of_mem_eraseIdx hx), ?_, h4.eraseIdx i⟩
  · rw [map_del]
  · rw [map_del]
    exact Vals.eraseIdxV i h3
section
variable {X : CD} {m : Led} {R : D → Led → Prop} {a : Addr} {ks : List (List Int)} {ds : List D} {k : List Int} {x : D} {n i : Nat}
end
def popDM (d : D) (ys : List D) : M D := fun m R _ => ∃ (a : Addr) (k : List Int) (n : Nat) (ks : List (List Int)) (ds : List D) (i : Nat) (x : D), d = .ref a ∧ ys = [keyD k] ∧ m[n]? = some (a, .dI ks ds) ∧ ks[i]? = some k ∧ ds[i]? = some x ∧ R x (m.set n (a, .dI (ks.eraseIdx i) (ds.eraseIdx i)))
section
variable {X : CD} {o e : Expr} {ρ : Rn} {co : M D} {cs : M (List D)} {apos cpos : Pos}
end
end DL


namespace DL
open PySem PySem.Spec PySem.Calls PyProof.Rows L2 RZ

/-! ### sorted(d): the keys any tuples of ints, the empty one among them at any place -/
section
open TS
variable {prog : Program} {w : World} {A : Around} {E : Value → Shared → Prop} {s : Shared}
end
section
variable {X : CD} {m : Led} {R : D → Led → Prop} {d : D} {ks : List (List Int)} {ds : List D} {b : Bool}
def sortA (b : Bool) (zs : List D) : M D := fun m R E => match zs with
  | [d] => ∃ (ks : List (List Int)) (ds : List D), DicV m d ks ds ∧ ∀ ks' : List (List Int), ks'.Perm ks → ks'.Pairwise (fun a c => lexI c a = false) → RNewL R m (ks'.map keyD) b
  | _ => False
end
end DL


namespace DL
open PySem PySem.Spec PySem.Calls PyProof.Rows L2 RZ

/-! ### dicts with bare int keys: {k: v for a, b in it}, d[k], k in d, d.get(k, x) -/
def inK (ks : List Int) : List Key := ks.map Sum.inl
section
variable {X : CD} {m : Led} {R : D → Led → Prop} {x y : D} {ks : List Int} {ds : List D} {key : Int} {i : Nat}
end
/-! the comprehension -/
def PutDK (ks : List Int) (vs : List D) (k v : D) (P : List Int → List D → Prop) : Prop := ∃ i, k = .int i ∧ ks.length < 100000 ∧ i ∉ ks ∧ P (ks ++ [i]) (vs ++ [v])
def CompDK (X : CD) (scope : Scope) (kx vx : Expr) (y : Str) (j : Nat) (z : Str) (k : Nat) (ρ : Rn) (R : List Int → List D → Led → Prop) (ds : List D) (m1 : Led) : Prop := ∃ I : Nat → List Int → List D → Led → Prop, I 0 [] [] m1 ∧
  (∀ i d ks vs m', ds[i]? = some d → I i ks vs m' → ∃ d1 d2 ρ1 ρ2, d = .tup [d1, d2] ∧ SetAt ρ j y d1 ρ1 ∧ SetAt ρ1 k z d2 ρ2 ∧ ∀ (s : Shared) (H0 : Hp) (C : Addr) (cl : List (Str × Addr)) (fp : List Addr),
    EX (X.blk s H0 scope (compEnvC scope cl C X.env) fp) kx ρ2 m' fun kd m2 => ∀ (s : Shared) (H0 : Hp) (C : Addr) (cl : List (Str × Addr)) (fp : List Addr), EX (X.blk s H0 scope (compEnvC scope cl C X.env) fp) vx ρ2 m2 fun v m3 => PutDK ks vs kd v fun ks vs => I (i + 1) ks vs m3) ∧ ∀ ks vs m', I ds.length ks vs m' → R ks vs m'
section
variable {X : CD} {kx vx it t : Expr} {scope : Scope} {ρ : Rn} {m : Led} {R : D → Led → Prop} {pos p0 p1 p2 : Pos} {y z : Str} {j k n0 : Nat} {f : D → M (Option (D × D))} {ci : M (List D)}
def dcKM (f : D → M (Option (D × D))) : List D → List Int → List D → M (List Int × List D)
  | [], ks, vs => ret (ks, vs)
  | d :: ds, ks, vs => fun m R E => f d m (fun o m' => match o with
    | some (k, v) => PutDK ks vs k v fun ks vs => dcKM f ds ks vs m' R E
    | none => False) NoX
def dicKF (q : List Int × List D) : M D := fun m R _ => R (.dK (inK q.1) q.2) m
/-! mirrors -/
def ixKM (x y : D) : M D := fun m R _ => ∃ (ks : List Int) (ds : List D) (key : Int) (i : Nat) (v : D), x = .dK (inK ks) ds ∧ y = .int key ∧ ks.Nodup ∧ ks[i]? = some key ∧ ds[i]? = some v ∧ R v m
def inKB (neg : Bool) (x y : D) : M Bool := fun m R _ => ∃ (ks : List Int) (ds : List D) (key : Int), y = .dK (inK ks) ds ∧ x = .int key ∧ ks.Nodup ∧ R (if neg then !decide (key ∈ ks) else decide (key ∈ ks)) m
def chkK (d : D) : M Unit := fun m R _ => (∃ ks ds, d = .dK (inK ks) ds) ∧ R () m
def getKM (d : D) (ys : List D) : M D := fun m R _ => ∃ key y ks ds, ys = [.int key, y] ∧ d = .dK (inK ks) ds ∧ ks.Nodup ∧ ((∃ (i : Nat) (x : D), ks[i]? = some key ∧ ds[i]? = some x ∧ R x m) ∨ (key ∉ ks ∧ R y m))
end
section
variable {X : CD} {a b o e e2 : Expr} {ρ : Rn} {ca cb co : M D} {cs : M (List D)} {pos apos cpos : Pos}
end
end DL


namespace DL
open PySem PySem.Spec PySem.Calls PyProof.Rows L2 RZ

/-! ### dict(zip(xs, ys)): a list of tuples of ints and a list -/
def keysD (ks : List (List Int)) : List D := ks.map keyD
def dzM (bb : Bool) (ds : List D) : M D := fun m R _ => match ds with
  | [d1, d2] => ∃ (ks : List (List Int)) (vs : List D), LstV m d1 (keysD ks) ∧ LstV m d2 vs ∧ ks.length = vs.length ∧ ks.Nodup ∧ ks.length ≤ 100000 ∧ RNew R m ks vs bb
  | _ => False
section
variable {X : CD} {a b : Expr} {ρ : Rn} {m : Led} {R : D → Led → Prop} {E : XR} {p p2 pos pos2 : Pos} {bb : Bool}
end
end DL


namespace DL
open PySem PySem.Spec PySem.Calls PyProof.Rows L2 RZ

/-! ### looking for a key in a dict with keys of several kinds -/
section
variable {prog : Program} {w : World} {A : Around} {E : Value → Shared → Prop} {s : Shared}
/-- the value is the key, not too deep -/
structure NK (h : Heap) (k : NestedKey) (v : Value) : Prop where
  is : NestedIs h k v
  dp : k.depth ≤ 8
/-- the keys of the entries, and the place that is found -/
structure Seek (h : Heap) (es : Array DictEntry) (Ks : List NestedKey) (k : NestedKey) (hk : Int) (res : Option Nat) : Prop where
  len : es.size = Ks.length
  is : ∀ (i : Nat) (e : DictEntry), es[i]? = some e → ∃ k', Ks[i]? = some k' ∧ NK h k' e.key
  one : ∀ i, Ks[i]? = some k → res = some i
  hit : ∀ i, res = some i → Ks[i]? = some k ∧ (es[i]?.map (·.hash)) = some hk
theorem mixTell {key : Value} {k : NestedKey} {stored : List Value} {Q : Bool → Shared → Prop} (hk : NK s.heap k key) (hst : ∀ v ∈ stored, ∃ k', NK s.heap k' v) (h : Q false s) : wpAny (model prog w) A (tableMayTell key stored) Q E s := by
  unfold tableMayTell
  by_cases h0 : stored.isEmpty = true
  · rw [if_pos h0]; exact wpAny_pure h
  · rw [if_neg h0]
    refine wpAny_bind (quiet_key k key 8 s hk.is hk.dp _ _ _ ?_)
    rw [if_neg (by simp)]
    refine wpAny_bind (wpAny_forIn_list _ (fun l r s' => (∀ v ∈ l, ∃ k', NK s.heap k' v) ∧ r = (none, ()) ∧ s' = s) _ ?_ ?_ _ _ ⟨hst, rfl, rfl⟩)
    · intro x l r s' ⟨hl, e1, e2⟩
      subst e1
      subst e2
      obtain ⟨k', hb⟩ := hl x (by simp)
      refine wpAny_bind (quiet_key k' x 8 _ hb.is hb.dp _ _ _ ?_)
      rw [if_neg (by simp)]
      exact wpAny_pure ⟨fun v hv => hl v (by simp [hv]), rfl, rfl⟩
    · intro r s' ⟨_, e1, e2⟩
      subst e1
      subst e2
      exact wpAny_pure h
/-- the places of a hash -/
def plc (es : Array DictEntry) (hk : Int) : List Nat := placesWithHash es.size (fun i => es[i]?.map (·.hash)) hk
theorem plc_mem {es : Array DictEntry} {hk : Int} {i : Nat} : i ∈ plc es hk ↔ (es[i]?.map (·.hash)) = some hk := by
  unfold plc placesWithHash
  rw [List.mem_filter, List.mem_range]
  constructor
  · intro h; simpa using h.2
  · intro h
    refine ⟨?_, by simpa using h⟩
    cases e : es[i]? with
    | none => rw [e] at h; cases h
    | some x => exact (Array.getElem?_eq_some_iff.mp e).1
theorem plc_nodup {es : Array DictEntry} {hk : Int} : (plc es hk).Nodup := by
  unfold plc placesWithHash
  exact List.nodup_range.filter _
theorem mixFind {d : Addr} {o : Obj} {es : Array DictEntry} {ep : Nat} {Ks : List NestedKey} {key : Value} {k : NestedKey} {hk : Int} {res : Option Nat} {Q : Option Nat → Shared → Prop} (hu : A.units + 16 < cLine)
    (hkey : NK s.heap k key) (hr : (∃ a, key = Value.ref a) ∨ ∀ (i : Nat) (e : DictEntry), es[i]? = some e → ∃ a, e.key = Value.ref a) (ho : s.heap.get? d = some o) (hd : o.data = .dict es ep) (f : Seek s.heap es Ks k hk res) (h : Q res s) : wpAny (model prog w) A (dictFind d key hk) Q E s := by
  have st : ∀ v ∈ (plc es hk).filterMap (fun i => es[i]?.map (·.key)), ∃ k', NK s.heap k' v := by
    intro v hv
    obtain ⟨i, _, hi⟩ := List.mem_filterMap.mp hv
    cases e : es[i]? with
    | none => rw [e] at hi; cases hi
    | some x =>
      rw [e] at hi
      obtain rfl : x.key = v := by simpa using hi
      obtain ⟨k', _, q⟩ := f.is i x e
      exact ⟨k', q⟩
  unfold dictFind
  try with_reducible refine wpAny_holding ?_
  refine wpAny_bind (wpAny_dictEntries ho hd ?_)
  dsimp only
  change NK s.heap k key at hkey
  obtain ⟨kis, kdp⟩ := id hkey
  obtain ⟨k0, ek0, kis0⟩ : ∃ k0, k0 = k ∧ NestedIs s.heap k0 key := ⟨k, rfl, kis⟩
  clear kis
  cases kis0
  case none =>
    have hrr : ∀ (i : Nat) (e : DictEntry), es[i]? = some e → ∃ a, e.key = Value.ref a := hr.resolve_left fun ⟨a, z⟩ => nomatch z
    by_cases hp : plc es hk = []
    · have hp' : placesWithHash es.size (fun i => es[i]?.map (·.hash)) hk = [] := hp
      have hn : res = none := by
        cases r : res with
        | none => rfl
        | some j =>
          have := plc_mem.mpr (f.hit j r).2
          rw [hp] at this
          exact absurd this (by simp)
      rw [hp', if_pos (by rfl)]
      unfold dictWalkPlain
      rw [hn] at h
      exact wpAny_bind (wpAny_pure (wpAny_pure h))
    have hc : ¬ ((Value.none :: (placesWithHash es.size (fun i => es[i]?.map (·.hash)) hk).filterMap (fun i => es[i]?.map (·.key))).all carriedByValue) = true := by
      obtain ⟨x, xs, e⟩ := List.exists_cons_of_ne_nil hp
      have hx := plc_mem.mp (show x ∈ plc es hk by rw [e]; simp)
      cases q : es[x]? with
      | none => rw [q] at hx; cases hx
      | some en =>
        obtain ⟨a, ea⟩ := hrr x en q
        have e' : placesWithHash es.size (fun i => es[i]?.map (·.hash)) hk = x :: xs := e
        rw [e', List.filterMap_cons, q]
        simp [carriedByValue, ea]
    rw [if_neg hc]
    by_cases hone : (((placesWithHash es.size (fun i => es[i]?.map (·.hash)) hk).filterMap (fun i => es[i]?.map (·.key))) == [Value.none]) = true
    all_goals first | rw [if_pos hone] | rw [if_neg hone]
    all_goals first | refine wpAny_bind (wpAny_pure ?_) | refine wpAny_bind (mixTell hkey st ?_)
    all_goals (
      rw [if_neg (by simp)]
      refine wpAny_bind (wpAny_forIn_list _ (fun l b s' => s' = s ∧ ∃ hit, b = (none, hit) ∧ l.Nodup ∧ (∀ x ∈ l, x ∈ plc es hk) ∧ ((hit = none ∧ ∀ j, res = some j → j ∈ l) ∨ (hit = res ∧ ∀ j, res = some j → j ∉ l))) _ ?_ ?_ _ _ ⟨rfl, none, rfl, plc_nodup, fun _ h => h, .inl ⟨rfl, fun j e => plc_mem.mpr (f.hit j e).2⟩⟩)
      · rintro x l b s' ⟨es1, hit, eb, nd, hm, hH⟩
        subst es1
        subst eb
        have hx := plc_mem.mp (hm x (by simp))
        cases e : es[x]? with
        | none => rw [e] at hx; cases hx
        | some en =>
          rw [e] at hx
          have hx : en.hash = hk := Option.some.inj hx
          obtain ⟨k', hk', nk⟩ := f.is x en e
          obtain ⟨nx, nl⟩ := List.nodup_cons.mp nd
          dsimp only
          rw [if_pos (by rw [hx]; exact beq_self_eq_true _)]
          have room : A.units + min k'.depth k.depth < cLine := by have := nk.dp; omega
          refine wpAny_bind (wpAny_dictEpoch ho hd (wpAny_bind (eqAt_key _ _ A _ _ _ nk.is hkey.is room _ _ _ _ (wpAny_bind (wpAny_dictEpoch ho hd ?_)))))
          rw [if_neg (by simp)]
          by_cases hkk : k' = k
          · subst hkk
            rw [NestedKey.beq_self]
            have hres : res = some x := f.one x hk'
            rcases hH with ⟨e0, hH⟩ | ⟨e0, hH⟩
            · subst e0
              rw [if_pos rfl]
              rw [if_neg (by simp)]
              refine wpAny_bind (wpAny_rule ?_)
              split
              · refine wpAny_pure (wpAny_pure ?_)
                rw [← hres]
                exact h
              · refine wpAny_pure ⟨rfl, some x, rfl, nl, fun y hy => hm y (by simp [hy]), .inr ⟨hres.symm, fun j ej => ?_⟩⟩
                rw [hres] at ej
                cases ej
                exact nx
            · exact absurd (List.mem_cons_self) (hH x hres)
          · have hb : NestedKey.beq k' k = false := by
              cases q : NestedKey.beq k' k with
              | false => rfl
              | true => exact absurd (NestedKey.eq_of_beq _ _ q) hkk
            rw [hb]
            rw [if_neg (by simp)]
            refine wpAny_bind (wpAny_rule ?_)
            rw [if_neg (by simp)]
            refine wpAny_pure ⟨rfl, hit, rfl, nl, fun y hy => hm y (by simp [hy]), ?_⟩
            rcases hH with ⟨e0, hH⟩ | ⟨e0, hH⟩
            · refine .inl ⟨e0, fun j ej => ?_⟩
              rcases List.mem_cons.mp (hH j ej) with ejx | hj
              · subst ejx
                have := (f.hit _ ej).1
                rw [hk'] at this
                exact absurd (Option.some.inj this) hkk
              · exact hj
            · exact .inr ⟨e0, fun j ej hj => hH j ej (by simp [hj])⟩
      · rintro b s' ⟨es1, hit, eb, nd, hm, hH⟩
        subst es1
        subst eb
        have e : hit = res := by
          rcases hH with ⟨e0, hH⟩ | ⟨e0, hH⟩
          · cases r : res with
            | none => exact e0
            | some j => exact absurd (hH j r) (by simp)
          · exact e0
        rw [e]
        exact wpAny_pure h)
  case bool b ib eb =>
    have hrr : ∀ (i : Nat) (e : DictEntry), es[i]? = some e → ∃ a, e.key = Value.ref a := hr.resolve_left fun ⟨a, z⟩ => nomatch z
    by_cases hp : plc es hk = []
    · have hp' : placesWithHash es.size (fun i => es[i]?.map (·.hash)) hk = [] := hp
      have hn : res = none := by
        cases r : res with
        | none => rfl
        | some j =>
          have := plc_mem.mpr (f.hit j r).2
          rw [hp] at this
          exact absurd this (by simp)
      rw [hp', if_pos (by rfl)]
      unfold dictWalkPlain
      rw [hn] at h
      exact wpAny_bind (wpAny_pure (wpAny_pure h))
    have hc : ¬ ((Value.bool b :: (placesWithHash es.size (fun i => es[i]?.map (·.hash)) hk).filterMap (fun i => es[i]?.map (·.key))).all carriedByValue) = true := by
      obtain ⟨x, xs, e⟩ := List.exists_cons_of_ne_nil hp
      have hx := plc_mem.mp (show x ∈ plc es hk by rw [e]; simp)
      cases q : es[x]? with
      | none => rw [q] at hx; cases hx
      | some en =>
        obtain ⟨a, ea⟩ := hrr x en q
        have e' : placesWithHash es.size (fun i => es[i]?.map (·.hash)) hk = x :: xs := e
        rw [e', List.filterMap_cons, q]
        simp [carriedByValue, ea]
    rw [if_neg hc]
    by_cases hone : (((placesWithHash es.size (fun i => es[i]?.map (·.hash)) hk).filterMap (fun i => es[i]?.map (·.key))) == [Value.bool b]) = true
    all_goals first | rw [if_pos hone] | rw [if_neg hone]
    all_goals first | refine wpAny_bind (wpAny_pure ?_) | refine wpAny_bind (mixTell hkey st ?_)
    all_goals (
      rw [if_neg (by simp)]
      refine wpAny_bind (wpAny_forIn_list _ (fun l b s' => s' = s ∧ ∃ hit, b = (none, hit) ∧ l.Nodup ∧ (∀ x ∈ l, x ∈ plc es hk) ∧ ((hit = none ∧ ∀ j, res = some j → j ∈ l) ∨ (hit = res ∧ ∀ j, res = some j → j ∉ l))) _ ?_ ?_ _ _ ⟨rfl, none, rfl, plc_nodup, fun _ h => h, .inl ⟨rfl, fun j e => plc_mem.mpr (f.hit j e).2⟩⟩)
      · rintro x l b s' ⟨es1, hit, eb, nd, hm, hH⟩
        subst es1
        subst eb
        have hx := plc_mem.mp (hm x (by simp))
        cases e : es[x]? with
        | none => rw [e] at hx; cases hx
        | some en =>
          rw [e] at hx
          have hx : en.hash = hk := Option.some.inj hx
          obtain ⟨k', hk', nk⟩ := f.is x en e
          obtain ⟨nx, nl⟩ := List.nodup_cons.mp nd
          dsimp only
          rw [if_pos (by rw [hx]; exact beq_self_eq_true _)]
          have room : A.units + min k'.depth k.depth < cLine := by have := nk.dp; omega
          refine wpAny_bind (wpAny_dictEpoch ho hd (wpAny_bind (eqAt_key _ _ A _ _ _ nk.is hkey.is room _ _ _ _ (wpAny_bind (wpAny_dictEpoch ho hd ?_)))))
          rw [if_neg (by simp)]
          by_cases hkk : k' = k
          · subst hkk
            rw [NestedKey.beq_self]
            have hres : res = some x := f.one x hk'
            rcases hH with ⟨e0, hH⟩ | ⟨e0, hH⟩
            · subst e0
              rw [if_pos rfl]
              rw [if_neg (by simp)]
              refine wpAny_bind (wpAny_rule ?_)
              split
              · refine wpAny_pure (wpAny_pure ?_)
                rw [← hres]
                exact h
              · refine wpAny_pure ⟨rfl, some x, rfl, nl, fun y hy => hm y (by simp [hy]), .inr ⟨hres.symm, fun j ej => ?_⟩⟩
                rw [hres] at ej
                cases ej
                exact nx
            · exact absurd (List.mem_cons_self) (hH x hres)
          · have hb : NestedKey.beq k' k = false := by
              cases q : NestedKey.beq k' k with
              | false => rfl
              | true => exact absurd (NestedKey.eq_of_beq _ _ q) hkk
            rw [hb]
            rw [if_neg (by simp)]
            refine wpAny_bind (wpAny_rule ?_)
            rw [if_neg (by simp)]
            refine wpAny_pure ⟨rfl, hit, rfl, nl, fun y hy => hm y (by simp [hy]), ?_⟩
            rcases hH with ⟨e0, hH⟩ | ⟨e0, hH⟩
            · refine .inl ⟨e0, fun j ej => ?_⟩
              rcases List.mem_cons.mp (hH j ej) with ejx | hj
              · subst ejx
                have := (f.hit _ ej).1
                rw [hk'] at this
                exact absurd (Option.some.inj this) hkk
              · exact hj
            · exact .inr ⟨e0, fun j ej hj => hH j ej (by simp [hj])⟩
      · rintro b s' ⟨es1, hit, eb, nd, hm, hH⟩
        subst es1
        subst eb
        have e : hit = res := by
          rcases hH with ⟨e0, hH⟩ | ⟨e0, hH⟩
          · cases r : res with
            | none => exact e0
            | some j => exact absurd (hH j r) (by simp)
          · exact e0
        rw [e]
        exact wpAny_pure h)
  case int ii tt =>
    have hrr : ∀ (i : Nat) (e : DictEntry), es[i]? = some e → ∃ a, e.key = Value.ref a := hr.resolve_left fun ⟨a, z⟩ => nomatch z
    by_cases hp : plc es hk = []
    · have hp' : placesWithHash es.size (fun i => es[i]?.map (·.hash)) hk = [] := hp
      have hn : res = none := by
        cases r : res with
        | none => rfl
        | some j =>
          have := plc_mem.mpr (f.hit j r).2
          rw [hp] at this
          exact absurd this (by simp)
      rw [hp', if_pos (by rfl)]
      unfold dictWalkPlain
      rw [hn] at h
      exact wpAny_bind (wpAny_pure (wpAny_pure h))
    have hc : ¬ ((Value.int ii tt :: (placesWithHash es.size (fun i => es[i]?.map (·.hash)) hk).filterMap (fun i => es[i]?.map (·.key))).all carriedByValue) = true := by
      obtain ⟨x, xs, e⟩ := List.exists_cons_of_ne_nil hp
      have hx := plc_mem.mp (show x ∈ plc es hk by rw [e]; simp)
      cases q : es[x]? with
      | none => rw [q] at hx; cases hx
      | some en =>
        obtain ⟨a, ea⟩ := hrr x en q
        have e' : placesWithHash es.size (fun i => es[i]?.map (·.hash)) hk = x :: xs := e
        rw [e', List.filterMap_cons, q]
        simp [carriedByValue, ea]
    rw [if_neg hc]
    by_cases hone : (((placesWithHash es.size (fun i => es[i]?.map (·.hash)) hk).filterMap (fun i => es[i]?.map (·.key))) == [Value.int ii tt]) = true
    all_goals first | rw [if_pos hone] | rw [if_neg hone]
    all_goals first | refine wpAny_bind (wpAny_pure ?_) | refine wpAny_bind (mixTell hkey st ?_)
    all_goals (
      rw [if_neg (by simp)]
      refine wpAny_bind (wpAny_forIn_list _ (fun l b s' => s' = s ∧ ∃ hit, b = (none, hit) ∧ l.Nodup ∧ (∀ x ∈ l, x ∈ plc es hk) ∧ ((hit = none ∧ ∀ j, res = some j → j ∈ l) ∨ (hit = res ∧ ∀ j, res = some j → j ∉ l))) _ ?_ ?_ _ _ ⟨rfl, none, rfl, plc_nodup, fun _ h => h, .inl ⟨rfl, fun j e => plc_mem.mpr (f.hit j e).2⟩⟩)
      · rintro x l b s' ⟨es1, hit, eb, nd, hm, hH⟩
        subst es1
        subst eb
        have hx := plc_mem.mp (hm x (by simp))
        cases e : es[x]? with
        | none => rw [e] at hx; cases hx
        | some en =>
          rw [e] at hx
          have hx : en.hash = hk := Option.some.inj hx
          obtain ⟨k', hk', nk⟩ := f.is x en e
          obtain ⟨nx, nl⟩ := List.nodup_cons.mp nd
          dsimp only
          rw [if_pos (by rw [hx]; exact beq_self_eq_true _)]
          have room : A.units + min k'.depth k.depth < cLine := by have := nk.dp; omega
          refine wpAny_bind (wpAny_dictEpoch ho hd (wpAny_bind (eqAt_key _ _ A _ _ _ nk.is hkey.is room _ _ _ _ (wpAny_bind (wpAny_dictEpoch ho hd ?_)))))
          rw [if_neg (by simp)]
          by_cases hkk : k' = k
          · subst hkk
            rw [NestedKey.beq_self]
            have hres : res = some x := f.one x hk'
            rcases hH with ⟨e0, hH⟩ | ⟨e0, hH⟩
            · subst e0
              rw [if_pos rfl]
              rw [if_neg (by simp)]
              refine wpAny_bind (wpAny_rule ?_)
              split
              · refine wpAny_pure (wpAny_pure ?_)
                rw [← hres]
                exact h
              · refine wpAny_pure ⟨rfl, some x, rfl, nl, fun y hy => hm y (by simp [hy]), .inr ⟨hres.symm, fun j ej => ?_⟩⟩
                rw [hres] at ej
                cases ej
                exact nx
            · exact absurd (List.mem_cons_self) (hH x hres)
          · have hb : NestedKey.beq k' k = false := by
              cases q : NestedKey.beq k' k with
              | false => rfl
              | true => exact absurd (NestedKey.eq_of_beq _ _ q) hkk
            rw [hb]
            rw [if_neg (by simp)]
            refine wpAny_bind (wpAny_rule ?_)
            rw [if_neg (by simp)]
            refine wpAny_pure ⟨rfl, hit, rfl, nl, fun y hy => hm y (by simp [hy]), ?_⟩
            rcases hH with ⟨e0, hH⟩ | ⟨e0, hH⟩
            · refine .inl ⟨e0, fun j ej => ?_⟩
              rcases List.mem_cons.mp (hH j ej) with ejx | hj
              · subst ejx
                have := (f.hit _ ej).1
                rw [hk'] at this
                exact absurd (Option.some.inj this) hkk
              · exact hj
            · exact .inr ⟨e0, fun j ej hj => hH j ej (by simp [hj])⟩
      · rintro b s' ⟨es1, hit, eb, nd, hm, hH⟩
        subst es1
        subst eb
        have e : hit = res := by
          rcases hH with ⟨e0, hH⟩ | ⟨e0, hH⟩
          · cases r : res with
            | none => exact e0
            | some j => exact absurd (hH j r) (by simp)
          · exact e0
        rw [e]
        exact wpAny_pure h)
  case text ii tt =>
    have hrr : ∀ (i : Nat) (e : DictEntry), es[i]? = some e → ∃ a, e.key = Value.ref a := hr.resolve_left fun ⟨a, z⟩ => nomatch z
    dsimp only
    by_cases hal : (es.all fun e => isExactStrKey e.key) = true
    · have he : es.size = 0 := by
        rcases Nat.eq_zero_or_pos es.size with z | z
        · exact z
        · obtain ⟨a, ea⟩ := hrr 0 es[0] (Array.getElem?_eq_getElem z)
          have := Array.all_eq_true.mp hal 0 z
          rw [ea] at this
          exact absurd this (by simp [isExactStrKey])
      obtain rfl : es = #[] := Array.eq_empty_of_size_eq_zero he
      have hn : res = none := by
        cases r : res with
        | none => rfl
        | some j => exact absurd (f.hit j r).2 (by simp)
      rw [if_pos hal]
      unfold foundByValue
      rw [hn] at h
      rw [show Array.findIdx? (fun x : DictEntry => x.key.isStr ii) #[] = none by simp]
      exact wpAny_pure h
    rw [if_neg hal]
    by_cases hp : plc es hk = []
    · have hp' : placesWithHash es.size (fun i => es[i]?.map (·.hash)) hk = [] := hp
      have hn : res = none := by
        cases r : res with
        | none => rfl
        | some j =>
          have := plc_mem.mpr (f.hit j r).2
          rw [hp] at this
          exact absurd this (by simp)
      rw [hp', if_pos (by rfl)]
      unfold dictWalkPlain
      rw [hn] at h
      exact wpAny_bind (wpAny_pure (wpAny_pure h))
    have hc : ¬ ((Value.str ii tt :: (placesWithHash es.size (fun i => es[i]?.map (·.hash)) hk).filterMap (fun i => es[i]?.map (·.key))).all carriedByValue) = true := by
      obtain ⟨x, xs, e⟩ := List.exists_cons_of_ne_nil hp
      have hx := plc_mem.mp (show x ∈ plc es hk by rw [e]; simp)
      cases q : es[x]? with
      | none => rw [q] at hx; cases hx
      | some en =>
        obtain ⟨a, ea⟩ := hrr x en q
        have e' : placesWithHash es.size (fun i => es[i]?.map (·.hash)) hk = x :: xs := e
        rw [e', List.filterMap_cons, q]
        simp [carriedByValue, ea]
    rw [if_neg hc]
    by_cases hone : (((placesWithHash es.size (fun i => es[i]?.map (·.hash)) hk).filterMap (fun i => es[i]?.map (·.key))) == [Value.str ii tt]) = true
    all_goals first | rw [if_pos hone] | rw [if_neg hone]
    all_goals first | refine wpAny_bind (wpAny_pure ?_) | refine wpAny_bind (mixTell hkey st ?_)
    all_goals (
      rw [if_neg (by simp)]
      refine wpAny_bind (wpAny_forIn_list _ (fun l b s' => s' = s ∧ ∃ hit, b = (none, hit) ∧ l.Nodup ∧ (∀ x ∈ l, x ∈ plc es hk) ∧ ((hit = none ∧ ∀ j, res = some j → j ∈ l) ∨ (hit = res ∧ ∀ j, res = some j → j ∉ l))) _ ?_ ?_ _ _ ⟨rfl, none, rfl, plc_nodup, fun _ h => h, .inl ⟨rfl, fun j e => plc_mem.mpr (f.hit j e).2⟩⟩)
      · rintro x l b s' ⟨es1, hit, eb, nd, hm, hH⟩
        subst es1
        subst eb
        have hx := plc_mem.mp (hm x (by simp))
        cases e : es[x]? with
        | none => rw [e] at hx; cases hx
        | some en =>
          rw [e] at hx
          have hx : en.hash = hk := Option.some.inj hx
          obtain ⟨k', hk', nk⟩ := f.is x en e
          obtain ⟨nx, nl⟩ := List.nodup_cons.mp nd
          dsimp only
          rw [if_pos (by rw [hx]; exact beq_self_eq_true _)]
          have room : A.units + min k'.depth k.depth < cLine := by have := nk.dp; omega
          refine wpAny_bind (wpAny_dictEpoch ho hd (wpAny_bind (eqAt_key _ _ A _ _ _ nk.is hkey.is room _ _ _ _ (wpAny_bind (wpAny_dictEpoch ho hd ?_)))))
          rw [if_neg (by simp)]
          by_cases hkk : k' = k
          · subst hkk
            rw [NestedKey.beq_self]
            have hres : res = some x := f.one x hk'
            rcases hH with ⟨e0, hH⟩ | ⟨e0, hH⟩
            · subst e0
              rw [if_pos rfl]
              rw [if_neg (by simp)]
              refine wpAny_bind (wpAny_rule ?_)
              split
              · refine wpAny_pure (wpAny_pure ?_)
                rw [← hres]
                exact h
              · refine wpAny_pure ⟨rfl, some x, rfl, nl, fun y hy => hm y (by simp [hy]), .inr ⟨hres.symm, fun j ej => ?_⟩⟩
                rw [hres] at ej
                cases ej
                exact nx
            · exact absurd (List.mem_cons_self) (hH x hres)
          · have hb : NestedKey.beq k' k = false := by
              cases q : NestedKey.beq k' k with
              | false => rfl
              | true => exact absurd (NestedKey.eq_of_beq _ _ q) hkk
            rw [hb]
            rw [if_neg (by simp)]
            refine wpAny_bind (wpAny_rule ?_)
            rw [if_neg (by simp)]
            refine wpAny_pure ⟨rfl, hit, rfl, nl, fun y hy => hm y (by simp [hy]), ?_⟩
            rcases hH with ⟨e0, hH⟩ | ⟨e0, hH⟩
            · refine .inl ⟨e0, fun j ej => ?_⟩
              rcases List.mem_cons.mp (hH j ej) with ejx | hj
              · subst ejx
                have := (f.hit _ ej).1
                rw [hk'] at this
                exact absurd (Option.some.inj this) hkk
              · exact hj
            · exact .inr ⟨e0, fun j ej hj => hH j ej (by simp [hj])⟩
      · rintro b s' ⟨es1, hit, eb, nd, hm, hH⟩
        subst es1
        subst eb
        have e : hit = res := by
          rcases hH with ⟨e0, hH⟩ | ⟨e0, hH⟩
          · cases r : res with
            | none => exact e0
            | some j => exact absurd (hH j r) (by simp)
          · exact e0
        rw [e]
        exact wpAny_pure h)
  case tup a oo vs nn kks g1 g2 g3 g4 =>
    rw [if_neg (by simp [carriedByValue])]
    have hany : ¬ (es.any fun e => e.key == Value.ref a && e.hash != hk) = true := by
      rw [Array.any_eq_true]
      rintro ⟨i, hi, hc⟩
      simp only [Bool.and_eq_true, beq_iff_eq, bne_iff_ne, ne_eq] at hc
      have ei : es[i]? = some es[i] := Array.getElem?_eq_getElem hi
      obtain ⟨k', hk', nk⟩ := f.is i _ ei
      rw [hc.1] at nk
      have ek := NestedIs.inj _ _ _ nk.is hkey.is
      rw [ek] at hk'
      have := (f.hit i (f.one i hk')).2
      rw [ei] at this
      exact hc.2 (Option.some.inj this)
    rw [if_neg hany]
    by_cases hone : (((placesWithHash es.size (fun i => es[i]?.map (·.hash)) hk).filterMap (fun i => es[i]?.map (·.key))) == [Value.ref a]) = true
    all_goals first | rw [if_pos hone] | rw [if_neg hone]
    all_goals first | refine wpAny_bind (wpAny_pure ?_) | refine wpAny_bind (mixTell hkey st ?_)
    all_goals (
      rw [if_neg (by simp)]
      refine wpAny_bind (wpAny_forIn_list _ (fun l b s' => s' = s ∧ ∃ hit, b = (none, hit) ∧ l.Nodup ∧ (∀ x ∈ l, x ∈ plc es hk) ∧ ((hit = none ∧ ∀ j, res = some j → j ∈ l) ∨ (hit = res ∧ ∀ j, res = some j → j ∉ l))) _ ?_ ?_ _ _ ⟨rfl, none, rfl, plc_nodup, fun _ h => h, .inl ⟨rfl, fun j e => plc_mem.mpr (f.hit j e).2⟩⟩)
      · rintro x l b s' ⟨es1, hit, eb, nd, hm, hH⟩
        subst es1
        subst eb
        have hx := plc_mem.mp (hm x (by simp))
        cases e : es[x]? with
        | none => rw [e] at hx; cases hx
        | some en =>
          rw [e] at hx
          have hx : en.hash = hk := Option.some.inj hx
          obtain ⟨k', hk', nk⟩ := f.is x en e
          obtain ⟨nx, nl⟩ := List.nodup_cons.mp nd
          dsimp only
          rw [if_pos (by rw [hx]; exact beq_self_eq_true _)]
          have room : A.units + min k'.depth k.depth < cLine := by have := nk.dp; omega
          refine wpAny_bind (wpAny_dictEpoch ho hd (wpAny_bind (eqAt_key _ _ A _ _ _ nk.is hkey.is room _ _ _ _ (wpAny_bind (wpAny_dictEpoch ho hd ?_)))))
          rw [if_neg (by simp)]
          by_cases hkk : k' = k
          · subst hkk
            rw [NestedKey.beq_self]
            have hres : res = some x := f.one x hk'
            rcases hH with ⟨e0, hH⟩ | ⟨e0, hH⟩
            · subst e0
              rw [if_pos rfl]
              rw [if_neg (by simp)]
              refine wpAny_bind (wpAny_rule ?_)
              split
              · refine wpAny_pure (wpAny_pure ?_)
                rw [← hres]
                exact h
              · refine wpAny_pure ⟨rfl, some x, rfl, nl, fun y hy => hm y (by simp [hy]), .inr ⟨hres.symm, fun j ej => ?_⟩⟩
                rw [hres] at ej
                cases ej
                exact nx
            · exact absurd (List.mem_cons_self) (hH x hres)
          · have hb : NestedKey.beq k' k = false := by
              cases q : NestedKey.beq k' k with
              | false => rfl
              | true => exact absurd (NestedKey.eq_of_beq _ _ q) hkk
            rw [hb]
            rw [if_neg (by simp)]
            refine wpAny_bind (wpAny_rule ?_)
            rw [if_neg (by simp)]
            refine wpAny_pure ⟨rfl, hit, rfl, nl, fun y hy => hm y (by simp [hy]), ?_⟩
            rcases hH with ⟨e0, hH⟩ | ⟨e0, hH⟩
            · refine .inl ⟨e0, fun j ej => ?_⟩
              rcases List.mem_cons.mp (hH j ej) with ejx | hj
              · subst ejx
                have := (f.hit _ ej).1
                rw [hk'] at this
                exact absurd (Option.some.inj this) hkk
              · exact hj
            · exact .inr ⟨e0, fun j ej hj => hH j ej (by simp [hj])⟩
      · rintro b s' ⟨es1, hit, eb, nd, hm, hH⟩
        subst es1
        subst eb
        have e : hit = res := by
          rcases hH with ⟨e0, hH⟩ | ⟨e0, hH⟩
          · cases r : res with
            | none => exact e0
            | some j => exact absurd (hH j r) (by simp)
          · exact e0
        rw [e]
        exact wpAny_pure h)
end
end DL


namespace DL
open PySem PySem.Spec PySem.Calls PyProof.Rows L2 RZ

/-! ### dicts with one odd key at the end -/
section
variable {prog : Program} {w : World} {A : Around} {E : Value → Shared → Prop} {s : Shared} {d : Addr} {es : Array DictEntry} {ep : Nat} {o : Obj}
theorem setMix {key v : Value} {k : NestedKey} {Ks : List NestedKey} {res : Option Nat} {Q : Unit → Shared → Prop} (hu : A.units + 64 < cLine) (hkey : NK s.heap k key) (hr : (∃ a, key = Value.ref a) ∨ ∀ (i : Nat) (e : DictEntry), es[i]? = some e → ∃ a, e.key = Value.ref a) (ho : s.heap.get? d = some o) (hx : o.ExactDict) (hd : o.data = .dict es ep) (f : Seek s.heap es Ks k (k.hash w) res)
    (hz : es.size ≤ sizeLine) (h1 : res = none → ∀ h' o', h'.get? d = some o' → o'.ExactDict → o'.data = .dict (es.push ⟨k.hash w, key, v⟩) (ep + 1) → Heap.SameBut d s.heap h' → Q () { s with heap := h', toks := s.toks + k.draws })
    (h2 : ∀ j, res = some j → ∀ h' o', h'.get? d = some o' → o'.ExactDict → o'.data = .dict (es.modify j fun e => { e with val := v }) ep → Heap.SameBut d s.heap h' → Q () { s with heap := h', toks := s.toks + k.draws }) : wpAny (model prog w) A (setItem (.ref d) key v) Q E s := by
  have hT : s.TypeIs (.ref d) "dict" := ⟨o, ho, hx.1⟩
  unfold setItem
  try with_reducible refine wpAny_holding ?_
  refine wpAny_bind (wpAny_sequenceKey hT (by decide) (wpAny_bind (wpAny_callSpecial?_slot (name := Str.ofString "__setitem__") hT F.slot_dict_setitem (wpAny_call_entry F.slot_dict_setitem hT F.entry_dict_setitem ?_ (PySem.args_dict_setitem _ _ _)))))
  show wpAny _ _ (Builtin.Dict.notOrdered "__setitem__" ⟨[.ref d, key, v], []⟩ >>= _) _ _ s
  refine wpAny_bind (wpAny_notOrdered_dict hT ?_)
  show wpAny _ _ (dictSet d key v >>= _) _ _ s
  refine wpAny_bind ?_
  unfold dictSet
  try with_reducible refine wpAny_holding ?_
  have hdp := hkey.dp
  refine wpAny_bind (pyHash_key k _ _ _ _ hkey.is (by show A.units + 1 + _ < cLine; omega) ?_)
  unfold dictSetHashed
  try with_reducible refine wpAny_holding ?_
  refine wpAny_bind (mixFind (s := { s with toks := s.toks + k.draws }) (by show A.units + 1 + 16 < cLine; omega) hkey hr ho hd f ?_)
  cases res with
  | none =>
    refine wpAny_bind (wpAny_rule (wpAny_updateDictKeys (hz := hz) (s := { s with toks := s.toks + k.draws }) ho hd (wpAny_pure ⟨.none, rfl, wpAny_pure ?_⟩)))
    exact h1 rfl _ _ (Heap.get?_update_self _ ho (Obj.isFreed_of_dict (Obj.data_mapDictKeys hd _))) (hx.mapDictKeys _) (Obj.data_mapDictKeys hd _) (Heap.SameBut.update ..)
  | some j =>
    refine wpAny_bind (wpAny_rule (wpAny_bind (wpAny_updateDict (s := { s with toks := s.toks + k.draws }) ho hd (wpAny_point (wpAny_pure ⟨.none, rfl, wpAny_pure ?_⟩)))))
    exact h2 j rfl _ _ (Heap.get?_update_self _ ho (Obj.isFreed_of_dict (Obj.data_mapDict hd _))) (hx.mapDict _) (Obj.data_mapDict hd _) (Heap.SameBut.update ..)
end
end DL


namespace DL
open PySem PySem.Spec PySem.Calls PyProof.Rows L2 RZ

/-! ### data: dicts with one odd key -/
def nkI (k : List Int) : NestedKey := .tup (k.map .num)
def nkO : D → NestedKey
  | .str x => .text x
  | .int i => .num i
  | .tup [.bl b] => nkI [bitI b]
  | _ => .none
theorem nk_hashes {w : World} : ∀ k : List Int, NestedKey.hashes w (k.map .num) = k.map hashInt
  | [] => rfl
  | i :: k => by rw [List.map_cons, NestedKey.hashes, nk_hashes k]; rfl
theorem nk_hash {w : World} (k : List Int) : (nkI k).hash w = hI k := by
  unfold nkI
  rw [NestedKey.hash, nk_hashes]
  rfl
theorem nk_dps : ∀ k : List Int, NestedKey.depthAll (k.map .num) = 0
  | [] => rfl
  | i :: k => by rw [List.map_cons, NestedKey.depthAll, nk_dps k]; rfl
theorem nk_dp (k : List Int) : (nkI k).depth ≤ 8 := by
  unfold nkI
  rw [NestedKey.depth, nk_dps]
  decide
theorem nums_inj : ∀ {a b : List Int}, a.map NestedKey.num = b.map NestedKey.num → a = b
  | [], [], _ => rfl
  | [], _ :: _, h => by cases h
  | _ :: _, [], h => by cases h
  | x :: a, y :: b, h => by
    rw [List.map_cons, List.map_cons] at h
    injection h with h1 h2
    injection h1 with h1
    rw [h1, nums_inj h2]
theorem nkI_inj {a b : List Int} (h : nkI a = nkI b) : a = b := by
  unfold nkI at h
  injection h with h
  exact nums_inj h
theorem nkO_ne {k : D} {j : List Int} (ok : oddK k) (h : nkO k = nkI j) : ∃ b, k = .tup [.bl b] ∧ j = [bitI b] := by
  unfold oddK at ok
  split at ok
  · unfold nkI nkO at h; cases h
  · unfold nkI nkO at h; cases h
  · unfold nkI nkO at h; cases h
  · rename_i b
    have h : nkI [bitI b] = nkI j := h
    exact ⟨b, rfl, (nkI_inj h).symm⟩
  · exact ok.elim
theorem nk_all {h : Heap} : ∀ {k : List Int} {its : List Value}, Vals (k.map V.int) its → NestedAll h (k.map .num) its
  | [], _, .nil => .nil
  | i :: k, _, .cons r t => .cons (by obtain ⟨t, e⟩ := r; subst e; exact .int i t) (nk_all t)
section
variable {X : Cx} {pins : List (Addr × Obj)} {σ : L2.St} {F H : Hp} {s : Shared} {m : Led} {b : Addr} {k : List Int} {kd : D} {kV : V} {kv : Value}
theorem nk_sq (I : Inv X pins σ H s) (h : SqT X.K H b (k.map V.int)) : NK s.heap (nkI k) (.ref b) := by
  obtain ⟨its, r, ⟨o, e1, e2, n, e3⟩, _⟩ := I.tuple h
  exact ⟨.tup e1 e2 e3 (by simpa using nk_all r), nk_dp k⟩
theorem nk_odd (I : Inv X pins σ H s) (at_ : At X.K F m H) (ok : oddK kd) (r : RelV kV kv) (q : Den X.K F kV kd) : NK s.heap (nkO kd) kv := by
  cases q with
  | str x => obtain ⟨t, e⟩ := r; subst e; exact ⟨.text _ _, by simp [nkO, NestedKey.depth]⟩
  | int x => obtain ⟨t, e⟩ := r; subst e; exact ⟨.int _ _, by simp [nkO, NestedKey.depth]⟩
  | non => cases r; exact ⟨.none, by simp [nkO, NestedKey.depth]⟩
  | @tup a xs ds h hs =>
    rcases ds with _ | ⟨d0, _ | ⟨d1, ds⟩⟩
    · exact ok.elim
    · cases d0 with
      | bl c =>
        have e : xs = [V.bl c] := Dens.bls (bs := [c]) hs
        subst e
        obtain ⟨its, r2, ⟨o, e1, e2, n, e3⟩, _⟩ := I.tuple (at_.sub.sqT h)
        obtain ⟨u, rfl, ru⟩ := vals1 r2
        cases ru
        cases r
        refine ⟨.tup e1 e2 e3 ?_, nk_dp _⟩
        exact .cons (.bool rfl) .nil
      | _ => exact ok.elim
    · exact (by cases d0 <;> exact ok.elim)
  | _ => exact ok.elim
end
def entsO (xs : List (List Int × Addr × Value)) (h : Int) (kv val : Value) : List DictEntry := xs.map entI ++ [⟨h, kv, val⟩]
def KsI (xs : List (List Int × Addr × Value)) : List NestedKey := xs.map fun x => nkI x.1
section
variable {h : Heap} {xs : List (List Int × Addr × Value)} {x : List Int × Addr × Value} {i : Nat} {k : D} {hh : Int} {kv val : Value}
theorem ksI_at {j : Nat} {n : NestedKey} (e : (KsI xs)[j]? = some n) : ∃ y, xs[j]? = some y ∧ n = nkI y.1 := by
  unfold KsI at e
  rw [List.getElem?_map] at e
  cases q : xs[j]? with
  | none => rw [q] at e; cases e
  | some y => rw [q] at e; exact ⟨y, rfl, (Option.some.inj e).symm⟩
theorem ksI_of (e : xs[i]? = some x) : (KsI xs)[i]? = some (nkI x.1) := by
  unfold KsI
  rw [List.getElem?_map, e]
  rfl
theorem ent_at {j : Nat} {e : DictEntry} (q : (xs.map entI).toArray[j]? = some e) : ∃ y, xs[j]? = some y ∧ e = entI y := by
  rw [List.getElem?_toArray, List.getElem?_map] at q
  cases r : xs[j]? with
  | none => rw [r] at q; cases q
  | some y => rw [r] at q; exact ⟨y, rfl, (Option.some.inj q).symm⟩
theorem key_one (nd : (xs.map (·.1)).Nodup) (hx : xs[i]? = some x) {j : Nat} {y : List Int × Addr × Value} (hy : xs[j]? = some y) (e : y.1 = x.1) : i = j := by
  have h1 : (xs.map (·.1))[i]? = some x.1 := by rw [List.getElem?_map, hx]; rfl
  have h2 : (xs.map (·.1))[j]? = some x.1 := by rw [List.getElem?_map, hy]; exact congrArg some e
  exact nd_ix nd h1 h2
theorem seek_new {n : NestedKey} {hk : Int} (his : ∀ x ∈ xs, NK h (nkI x.1) (.ref x.2.1)) (hn : ∀ x ∈ xs, nkI x.1 ≠ n) : Seek h (xs.map entI).toArray (KsI xs) n hk none where
  len := by simp [KsI]
  is := fun j e q => by
    obtain ⟨y, hy, rfl⟩ := ent_at q
    exact ⟨_, ksI_of hy, his y (List.mem_of_getElem? hy)⟩
  one := fun j e => by
    obtain ⟨y, hy, rfl⟩ := ksI_at e
    exact absurd rfl (hn y (List.mem_of_getElem? hy))
  hit := fun j e => by cases e
theorem seek_old (his : ∀ x ∈ xs, NK h (nkI x.1) (.ref x.2.1)) (nd : (xs.map (·.1)).Nodup) (hx : xs[i]? = some x) : Seek h (xs.map entI).toArray (KsI xs) (nkI x.1) (hI x.1) (some i) where
  len := by simp [KsI]
  is := fun j e q => by
    obtain ⟨y, hy, rfl⟩ := ent_at q
    exact ⟨_, ksI_of hy, his y (List.mem_of_getElem? hy)⟩
  one := fun j e => by
    obtain ⟨y, hy, e⟩ := ksI_at e
    rw [key_one nd hx hy (nkI_inj e).symm]
  hit := fun j e => by
    cases e
    refine ⟨ksI_of hx, ?_⟩
    rw [List.getElem?_toArray, List.getElem?_map, hx]
    rfl
end
end DL


namespace DL
open PySem PySem.Spec PySem.Calls PyProof.Rows L2 RZ

/-! ### rules for dicts with one odd key at the end -/
section
variable {X : CD} {m : Led} {R : D → Led → Prop} {ks : List (List Int)} {ds : List D} {kd vd : D}
theorem odd_isi {n : String} (hn : n ∈ ["int", "bool", "list", "tuple", "dict", "str"]) (k : R (.bl (n == "dict")) m) : BX X (.builtin "isinstance") [.dO ks ds kd vd, .ty n] m R := .mk fun F σ H xs pins s us qs at_ I rs => by
  obtain ⟨v, w, rfl, q, q2⟩ := qs.two
  obtain ⟨u, u2, rfl, rx, ry⟩ := vals2 rs
  cases q with
  | @dO a o xs h kv val kV vV vs _ _ _ _ hF ho hk ht hv hs ok rk qk rv qv =>
    cases rx
    cases q2
    cases ry
    have hk : kitB "dict" n = some (n == "dict") := (by decide +kernel : ∀ n ∈ ["int", "bool", "list", "tuple", "dict", "str"], kitB "dict" n = some (n == "dict")) n hn
    exact PySem.W.kia_one PySem.W.kitx_dict I.kIn ⟨o, objO_get I.hok (at_.toAt.sub _ _ hF), ho.ex.1⟩ (kit_ty hk) (fun z => nomatch z) fun tk => ⟨.bl _, H, I.tok _, rfl, PQ.now at_.toAt (.bl _) k⟩
end
theorem mod_set {xs : List (List Int × Addr × Value)} {x : List Int × Addr × Value} {j : Nat} {u : Value} (hx : xs[j]? = some x) : ((xs.map entI).toArray.modify j fun e => { e with val := u }) = ((xs.set j (x.1, x.2.1, u)).map entI).toArray := by
  apply Array.ext_getElem?
  intro i
  rw [Array.getElem?_modify, List.getElem?_toArray, List.getElem?_toArray, List.getElem?_map, List.getElem?_map]
  by_cases e : j = i
  · subst e
    rw [if_pos rfl, hx, List.getElem?_set_self (List.getElem?_eq_some_iff.mp hx).1]
    rfl
  · rw [if_neg e, List.getElem?_set_ne e]
theorem set_fst {xs : List (List Int × Addr × Value)} {x : List Int × Addr × Value} {j : Nat} {u : Value} (hx : xs[j]? = some x) : (xs.set j (x.1, x.2.1, u)).map (·.1) = xs.map (·.1) := by
  rw [List.map_set]
  apply List.ext_getElem?
  intro i
  by_cases e : j = i
  · subst e
    rw [List.getElem?_set_self (by simpa using (List.getElem?_eq_some_iff.mp hx).1), List.getElem?_map, hx]
    rfl
  · rw [List.getElem?_set_ne e]
section
variable {X : CD}
def tOdd (X : CD) : TSet := fun o ix v H Q => ∃ (F : Hp) (m : Led) (a : Addr) (ob : Obj) (xs : List (List Int × Addr × Value)) (kd : D), o = .ref a ∧ At X.K F m H ∧ Den X.K F ix kd ∧ oddK kd ∧ H a = some (objO a ob) ∧ DictObj a ob xs ∧ (∀ x ∈ xs, SqT X.K H x.2.1 (x.1.map V.int)) ∧ xs.length < sizeLine ∧
  (((∀ b, kd = .tup [.bl b] → [bitI b] ∉ xs.map (·.1)) ∧ ∀ iv u ob' hh, RelV ix iv → RelV v u → OddObj a ob' xs hh iv u → OddOk (xs.map (·.1)) kd hh → Q (upd H a (objO a ob'))) ∨
   (∃ b j x, kd = .tup [.bl b] ∧ xs[j]? = some x ∧ x.1 = [bitI b] ∧ ∀ u ob', RelV v u → DictObj a ob' (xs.set j (x.1, x.2.1, u)) → Q (upd H a (objO a ob'))))
theorem set_odd (hu : X.A.units + 64 < cLine) : PSet X (tOdd X) := by
  intro pins s σ H o i v ov iv u Q I r1 r2 r3 ⟨F, m, a, ob, xs, kd, e1, at_, q2, ok, h1, h2, h3, hl, q⟩
  subst e1
  cases r1
  have his : ∀ x ∈ xs, NK s.heap (nkI x.1) (.ref x.2.1) := fun x hx => nk_sq I (h3 x hx)
  have hkn := nk_odd I at_ ok r2 q2
  have hg := objO_get I.hok h1
  obtain ⟨ep, hdt⟩ := h2.dat
  have hz : (xs.map entI).toArray.size ≤ sizeLine := by simp; omega
  have hr : (∃ a, iv = Value.ref a) ∨ ∀ (i : Nat) (e : DictEntry), (xs.map entI).toArray[i]? = some e → ∃ a, e.key = Value.ref a := .inr fun i e q => by
    obtain ⟨y, _, rfl⟩ := ent_at q
    exact ⟨_, rfl⟩
  rcases q with ⟨hn, q⟩ | ⟨b, j, x, ek, hx, exx, q⟩
  · have sk : Seek s.heap (xs.map entI).toArray (KsI xs) (nkO kd) ((nkO kd).hash X.w) none := seek_new his fun x hx e => by
      obtain ⟨b, z1, z2⟩ := nkO_ne ok e.symm
      exact hn b z1 (z2 ▸ List.mem_map.mpr ⟨x, hx, rfl⟩)
    refine setMix hu hkn hr hg h2.ex hdt sk hz (fun _ h' o' g1 g2 g3 g4 => ?_) (fun j z => nomatch z)
    refine ⟨_, I.write (x := a) (e := a) (by rw [h1]; exact True.intro) (.inl rfl) (fun b ub hb e => (g4.2 b hb).trans e) ⟨_, g1⟩ (objO_ok g1), q iv u o' ((nkO kd).hash X.w) r2 r3 ⟨g2, ⟨ep + 1, ?_⟩, h2.nod, by omega, h2.sys⟩ ⟨ok, fun b eb => ⟨hn b eb, ?_⟩⟩⟩
    · rw [g3]
      congr 1
      simp
    · subst eb
      exact nk_hash (w := X.w) _
  · subst ek
    have sk := seek_old his h2.nod hx
    rw [exx, ← nk_hash (w := X.w)] at sk
    refine setMix hu hkn hr hg h2.ex hdt sk hz (fun z => nomatch z) (fun j' z h' o' g1 g2 g3 g4 => ?_)
    cases z
    refine ⟨_, I.write (x := a) (e := a) (by rw [h1]; exact True.intro) (.inl rfl) (fun b ub hb e => (g4.2 b hb).trans e) ⟨_, g1⟩ (objO_ok g1), q u o' r3 ⟨g2, ⟨ep, ?_⟩, by rw [set_fst hx]; exact h2.nod, by rw [List.length_set]; omega, h2.sys⟩⟩
    rw [g3, mod_set hx]
theorem st_odd {m : Led} {a : Addr} {n : Nat} {ks : List (List Int)} {ds : List D} {kd d : D} {R : Led → Prop} (hu : X.A.units + 64 < cLine) (hm : m[n]? = some (a, .dI ks ds)) (hl : ks.length < 100000) (ok : oddK kd)
    (kk : ((∀ b, kd = .tup [.bl b] → [bitI b] ∉ ks) ∧ R (m.set n (a, .dO ks ds kd d))) ∨ (∃ b j, kd = .tup [.bl b] ∧ ks[j]? = some [bitI b] ∧ R (m.set n (a, .dI ks (ds.set j d))))) : StX X (.ref a) kd d m R := .mk ⟨_, set_odd hu, fun F H o ix v q1 q2 q3 at_ => by
  cases q1
  obtain ⟨hh, ⟨ob, xs, vs, rfl, h1, h2, h3, h4, h5⟩, e⟩ := at_.get hm
  have hlx : xs.length = ks.length := by rw [← h2, List.length_map]
  refine ⟨F, m, a, ob, xs, kd, rfl, at_.toAt, q2, ok, e, h1, fun x hx => at_.sub.sqT (h3 x hx), lenLt (by rw [hlx]; exact hl), ?_⟩
  rcases kk with ⟨hn, r⟩ | ⟨b, j, ek, hj, r⟩
  · refine .inl ⟨by rw [h2]; exact hn, fun iv u ob' hh r2 r3 oo okk => ?_⟩
    rw [h2] at okk
    exact ⟨F, _, Step.write (o' := .dO ks ds kd d) at_.toAt hm ⟨ob', xs, hh, iv, u, ix, v, vs, rfl, oo, h2, h3, h4, h5, okk, r2, q2, r3, q3⟩, r⟩
  · rw [← h2, List.getElem?_map] at hj
    cases ex : xs[j]? with
    | none => rw [ex] at hj; cases hj
    | some x =>
      rw [ex] at hj
      refine .inr ⟨b, j, x, ek, ex, Option.some.inj hj, fun u ob' r3 dobj => ?_⟩
      refine ⟨F, _, Step.write (o' := .dI ks (ds.set j d)) at_.toAt hm ⟨ob', _, vs.set j v, rfl, dobj, by rw [set_fst ex, h2], fun y hy => ?_, ?_, h5.set j q3⟩, r⟩
      · rcases List.mem_or_eq_of_mem_set hy with hy | rfl
        · exact h3 y hy
        · exact h3 x (List.mem_of_getElem? ex)
      · rw [List.map_set]
        exact vals_set h4 r3⟩
theorem Step.freezeO {K : Frag} {F H : Hp} {m : Led} {i : Nat} {p : Addr} {ks : List (List Int)} {ds : List D} {k d : D} (a : At K F m H) (h : m[i]? = some (p, .dO ks ds k d)) : ∃ F2, Step K F m H F2 (m.eraseIdx i) H ∧ Den K F2 (.ref p) (.dO ks ds k d) := by
  obtain ⟨hh, ⟨o, xs, hx, kv, val, kV, vV, vs, rfl, h1, h2, h3, h4, h5, ok, rk, qk, rv, qv⟩, hF, e, st⟩ := Step.frz a h
  exact ⟨_, st, .dO upd_same h1 h2 (fun x hx => st.ex.sqT (h3 x hx)) h4 (h5.mono st.ex) ok rk (qk.mono st.ex) rv (qv.mono st.ex)⟩
end
/-! the walk of its keys -/
def Ity (d : Addr) (o : Obj) (es : List DictEntry) (ks : List V) : It :=
  ⟨fun i H => H d = some (objO d o) ∧ i < es.length, fun i H x H' => H' = H ∧ ks[i]? = some x, fun i H => H d = some (objO d o) ∧ es.length ≤ i⟩
theorem turn_Ity {P : Program} {w : World} {K : PySem.W.Frag} {tg : Expr} {d : Addr} {o : Obj} {ep : Nat} {es : List DictEntry} {ks : List V} (it : Addr) (hod : o.data = .dict es.toArray ep) (rk : Vals ks (es.map (·.key))) : Turn P w K tg (Ity d o es ks) [it] it (fun i h => h.IsKeyIter it d i es.length ep) where
  mem := by simp
  obj := fun i h st b hb => by
    have e : b = it := by simpa using hb
    subst e
    obtain ⟨oi, e, c, dd⟩ := st
    exact ⟨oi, e, fun v z => by rw [dd] at z; cases z⟩
  keep := fun i h h' st k => st.at fun oi e => k it (by simp) oi e
  item := by
    intro X hP hw hK hc i pins s σ H E I hf st hg
    subst hP hw hK
    obtain ⟨hd, hi⟩ := hg
    obtain ⟨f0, f1, f2, f3, f4, f5⟩ := hf it (by simp)
    have hgd := objO_get I.hok hd
    have hy : es.toArray[i]? = some es[i] := by rw [List.getElem?_toArray]; exact List.getElem?_eq_getElem hi
    have hk : (es.map (·.key))[i]? = some es[i].key := by rw [List.getElem?_map, List.getElem?_eq_getElem hi]; rfl
    have hl : i < ks.length := by rw [rk.length]; simpa using hi
    obtain ⟨u, hu, ru⟩ := rk.get (List.getElem?_eq_getElem hl)
    rw [hk] at hu
    obtain rfl := Option.some.inj hu
    refine next_key_item st hgd hod (by simp) hy fun h' st' sb => ?_
    have I1 : Inv X pins σ H { s with heap := h' } := I.turned (t' := s.toks) (fun b ob hb e => (sb.2 b hb).trans e) f0 f1 f3 f4 f5
    obtain ⟨oi, e, c, dd⟩ := id st'
    exact ⟨es[i].key, rfl, go_of (s := { s with heap := h' }) e c dd (by decide) ⟨ks[i], H, I1, ru, ⟨rfl, List.getElem?_eq_getElem hl⟩, st', fun b hb => (hf b hb).1⟩⟩
  done := by
    intro X hP hw hK hc i pins s σ H E I hf st hg
    subst hP hw hK
    obtain ⟨hd, hi⟩ := hg
    obtain ⟨f0, f1, f2, f3, f4, f5⟩ := hf it (by simp)
    have hgd := objO_get I.hok hd
    exact next_key_end (I.ok.hd hc) st hgd hod (by simp) hi fun h' eb => ⟨rfl, I.turned (t' := s.toks) (fun b ob hb e => eb b ob hb e) f0 f1 f3 f4 f5⟩
  self := fun A i s Q E st h => by
    refine wpAny_pyIter_slot st.typeIs F.slot_dict_keyiterator_iter (wpAny_call_entry F.slot_dict_keyiterator_iter st.typeIs F.entry_dict_keyiterator_iter ?_ (F.args_dict_keyiterator_iter_1 _))
    show wpAny _ _ (PySem.ret (.ref it)) _ _ s
    exact wpAny_pure ⟨_, rfl, "dict_keyiterator", _, st.typeIs, F.slot_dict_keyiterator_next.lookup, h⟩
theorem walk_Ity {d : Addr} {o : Obj} {es : List DictEntry} {ks : List V} : Walk (Ity d o es ks) es.length (fun H => H d = some (objO d o)) (YAt ks) :=
  ⟨fun i _ hi q => ⟨q, hi⟩, fun _ q => ⟨q, Nat.le_refl _⟩, fun i H x H' hi q ⟨e, ex⟩ => ⟨e, ex⟩⟩
theorem vrefs : ∀ xs : List (List Int × Addr × Value), Vals (xs.map fun y => V.ref y.2.1) ((xs.map entI).map (·.key))
  | [] => .nil
  | x :: xs => .cons rfl (vrefs xs)
def iSeqO (X : CD) (it : Expr) : TI := fun σ H R => SE X it σ H fun x H1 => ∃ a, x = .ref a ∧ (((∃ xs, SqL X.K H1 a xs) ∧ R (Itl X.K a) H1) ∨ ((∃ xs, SqT X.K H1 a xs) ∧ R (Itt X.K a) H1) ∨ (∃ o xs, H1 a = some (objO a o) ∧ DictObj a o xs ∧ R (Itx a o xs) H1) ∨
  ∃ o es ep ks, H1 a = some (objO a o) ∧ o.ExactDict ∧ (a == sysModules) = false ∧ o.data = .dict es.toArray ep ∧ Vals ks (es.map (·.key)) ∧ R (Ity a o es ks) H1)
theorem pi_seqO {X : CD} {tg l : Expr} : PI X tg l (iSeqO X l) := by
  refine ⟨fun pins s σ H R I h => thn (h pins s I) fun v s1 ⟨x, H1, I1, r1, q1⟩ => ?_⟩
  obtain ⟨a, e, ⟨⟨xs, hq⟩, q⟩ | ⟨⟨xs, hq⟩, q⟩ | ⟨o, xs, ho, hd, q⟩ | ⟨o, es, ep, ks, ho, hx, hs, hdt, rk, q⟩⟩ := q1
  · subst e
    cases r1
    obtain ⟨its, rv, p, hz⟩ := I1.list hq
    exact wpAny_pyIter_list p.isList (pi_one (tk := s1.toks) I1 _ (turn_list a _) ⟨_, Heap.get?_push_size _ rfl, rfl, rfl⟩ q)
  · subst e
    cases r1
    obtain ⟨its, rv, p, hz⟩ := I1.tuple hq
    exact wpAny_pyIter_tuple (show s1.heap.IsTuple a its.toArray from p) (pi_one (tk := s1.toks) I1 _ (turn_tuple a _) ⟨_, Heap.get?_push_size _ rfl, rfl, rfl⟩ q)
  · subst e
    cases r1
    obtain ⟨ep, hdt⟩ := hd.dat
    refine iter_keys hd.sys (objO_get I1.hok ho) hd.ex hdt (pi_one (tk := s1.toks) I1 _ (turn_Itx _ hdt) ⟨_, Heap.get?_push_size _ rfl, rfl, ?_⟩ q)
    simp
  · subst e
    cases r1
    refine iter_keys hs (objO_get I1.hok ho) hx hdt (pi_one (tk := s1.toks) I1 _ (turn_Ity _ hdt rk) ⟨_, Heap.get?_push_size _ rfl, rfl, ?_⟩ q)
    simp
def SeqO (d : D) (ds : List D) : Prop := SeqD d ds ∨ ∃ ks vs k v, d = .dO ks vs k v ∧ ds = ks.map keyD ++ [k]
theorem ix_seqO {X : CD} {tg it : Expr} {ρ : Rn} {m : Led} {R : List D → Led → Prop} (h : EX X it ρ m fun d m1 => ∃ ds, SeqO d ds ∧ R ds m1) : IX X tg it ρ m R := .mk fun F σ H en at_ =>
  SI.of pi_seqO (h.go en at_ fun v d F1 m1 H1 s1 en1 q ⟨ds, ed, r⟩ => by
    rcases ed with (rfl | rfl | ⟨ks, vs, rfl, rfl⟩) | ⟨ks, vs, k, vv, rfl, rfl⟩
    · cases q with
      | lst hq hs => exact ⟨_, rfl, .inl ⟨⟨_, .inl (s1.at2.sub.rd hq)⟩, ds, F1, m1, s1, r, by rw [← hs.length]; exact walk_list.mono (fun H' e => .inl (e.rd hq)) fun i H' x H'' _ _ y => yd_at hs y⟩⟩
    · cases q with
      | tup hq hs => exact ⟨_, rfl, .inr (.inl ⟨⟨_, s1.at2.sub.sqT hq⟩, ds, F1, m1, s1, r, by rw [← hs.length]; exact walk_tup.mono (fun H' e => e.sqT hq) fun i H' x H'' _ _ y => yd_at hs y⟩)⟩
    · cases q with
      | dI ho hd hk ht hv hs =>
        subst hk
        refine ⟨_, rfl, .inr (.inr (.inl ⟨_, _, s1.at2.sub _ _ ho, hd, _, F1, m1, s1, r, ?_⟩))⟩
        rw [List.length_map, List.length_map]
        exact walk_Itx.mono (fun H' e => e _ _ ho) fun i H' x H'' _ _ y => yd_at (keys_dens ht) y
    · cases q with
      | @dO p o xs h kv val kV vV vs' _ _ _ _ hF ho hk ht hv hs ok rk qk rv qv =>
        subst hk
        obtain ⟨ep, hdt⟩ := ho.dat
        have rks : Vals ((xs.map fun y => V.ref y.2.1) ++ [kV]) ((xs.map entI ++ [DictEntry.mk h kv val]).map (·.key)) := by
          rw [List.map_append]
          exact (vrefs xs).append (.cons rk .nil)
        refine ⟨_, rfl, .inr (.inr (.inr ⟨_, _, ep, _, s1.at2.sub _ _ hF, ho.ex, ho.sys, hdt, rks, _, F1, m1, s1, r, ?_⟩))⟩
        have el : ((xs.map (·.1)).map keyD ++ [k]).length = (xs.map entI ++ [DictEntry.mk h kv val]).length := by simp
        rw [el]
        exact walk_Ity.mono (fun H' e => e _ _ hF) fun i H' x H'' _ _ y => yd_at ((keys_dens ht).append (.cons qk .nil)) y)
end DL


namespace DL
open PySem PySem.Spec PySem.Calls PyProof.Rows L2 RZ

/-! ### mirrors for dicts with one odd key -/
def lenA (ds : List D) : M D := fun m R E => (∃ ks vs k v, ds = [.dO ks vs k v] ∧ R (.int (ks.length + 1 : Nat)) m) ∨ lenM ds m R E
def isiA (cs : List Str) (ds : List D) : M D := fun m R E => (∃ ks vs k v n, ds = [.dO ks vs k v, .ty n] ∧ n ∈ ["int", "bool", "list", "tuple", "dict", "str"] ∧ R (.bl (n == "dict")) m) ∨ isiO cs ds m R E
def ixA (o i : D) : M D := fun m R E => (∃ (ks : List (List Int)) (ds : List D) (k v : D) (j : List Int) (n : Nat) (x : D), o = .dO ks ds k v ∧ i = .tup (j.map .int) ∧ ks[n]? = some j ∧ ds[n]? = some x ∧ R x m) ∨ (∃ ks ds b v, o = .dO ks ds (.tup [.bl b]) v ∧ i = .tup [.bl b] ∧ R v m) ∨ ixM o i m R E
def seqA (d : D) : M (List D) := fun m R E => (∃ ks vs k v, d = .dO ks vs k v ∧ R (ks.map keyD ++ [k]) m) ∨ seqM d m R E
def stA (o i v : D) : M Unit := fun m R E => (∃ a n ks ds, o = .ref a ∧ m[n]? = some (a, .dI ks ds) ∧ ks.length < 100000 ∧ oddK i ∧
  (((∀ b, i = .tup [.bl b] → [bitI b] ∉ ks) ∧ R () (m.set n (a, .dO ks ds i v))) ∨ (∃ b j, i = .tup [.bl b] ∧ ks[j]? = some [bitI b] ∧ R () (m.set n (a, .dI ks (ds.set j v)))))) ∨ stM o i v m R E
def frzU (d : D) : M D := fun m R E => (∃ p n ks ds k v, d = .ref p ∧ m[n]? = some (p, .dO ks ds k v) ∧ R (.dO ks ds k v) (m.eraseIdx n)) ∨ frzM d m R E
section
variable {X : CD}
theorem isiA_ok {cs : List Str} (hcs : ∀ cn ∈ cs, ObjK X.K cn) (ds : List D) (m R E) (h : isiA cs ds m R E) : BX X (.builtin "isinstance") ds m R := by
  rcases h with ⟨ks, vs, k, v, n, rfl, hn, h⟩ | h
  · exact odd_isi hn h
  · exact isiO_ok hcs _ _ _ _ h
theorem stA_ok {o i v : D} {m : Led} {R : Unit → Led → Prop} {E : XR} (hu : X.A.units + 64 < cLine) (h : stA o i v m R E) : StX X o i v m (R ()) := by
  rcases h with ⟨a, n, ks, ds, rfl, hm, hl, ok, h⟩ | h
  · exact st_odd hu hm hl ok h
  · exact stM_ok hu h
end
section
variable {X : CD} {a b e t o ix it tg : Expr} {es : List Expr} {ρ : Rn} {pos p1 : Pos} {c ca cb ce co ci : M D}
theorem iv_seqA (h : Ev X it ρ c) : Iv X tg it ρ (bnd c seqA) := ⟨fun m R E xa k => ix_seqO ((h.run m _ E xa k).mono fun d m1 h => by
  rcases h with ⟨ks, vs, k, v, rfl, h⟩ | h
  · exact ⟨_, .inr ⟨_, _, _, _, rfl, rfl⟩, h⟩
  · cases d <;> try exact h.elim
    · exact ⟨_, .inl (.inl rfl), h⟩
    · exact ⟨_, .inl (.inr (.inl rfl)), h⟩
    · exact ⟨_, .inl (.inr (.inr ⟨_, _, rfl, rfl⟩)), h⟩)⟩
end
section
variable {X : CD} {rest : List Stmt} {ρ : Rn} {σ τ : Type} {en : σ → Option Rn} {el : τ → Rn} {e : Expr} {pos p1 : Pos} {x : Str} {i : Nat} {d : D} {ρd : D → Rn} {kd : D → M (Fl σ τ)}
theorem bf_subA {o ix : Expr} {ce co ci : M D} {k : M (Fl σ τ)} (hu : X.A.units + 64 < cLine) (he : Ev X e ρ ce) (ho : Ev X o ρ co) (hi : Ev X ix ρ ci) (hk : BF X rest ρ en el k) (hs : swapsWithSole [.Subscript o ix p1] e pos.line X.env = pure false := by rfl) (hw : swappedStores [.Subscript o ix p1] e X.env = pure none := by rfl)
    (h1 : (assignEach [.Subscript o ix p1] X.env).map (·.2) = [assign (.Subscript o ix p1) X.env] := by rfl) (ha : ∀ v, assign (.Subscript o ix p1) X.env v = (do
      let ov ← holding [v] (eval o X.env)
      let iv ← holding [v, ov] (eval ix X.env)
      standAt p1
      holding [v, ov, iv] (setItem ov iv v)
      release [v, ov, iv] []) := by intro _; rfl) : BF X (.Assign [.Subscript o ix p1] e pos :: rest) ρ en el (bnd ce fun v => bnd co fun ov => bnd ci fun iv => bnd (stA ov iv v) fun _ => k) := ⟨fun m R E xf q =>
  s_cons (s_asg ((he.run m _ E (xf ρ) q).mono fun v m1 h => g_sub ((ho.run m1 _ E (xf ρ) h).mono fun ov m2 h => (hi.run m2 _ E (xf ρ) h).mono fun iv m3 h => StX.mono (stA_ok hu h) fun m4 h => hk.run m4 R E xf h) ha) hs hw h1)⟩
theorem bf_frzA (hl : LookAt ρ i x d) (hset : ∀ u, SetAt ρ i x u (ρd u)) (hk : ∀ u, BF X rest (ρd u) en el (kd u)) : BF X rest ρ en el (bnd (frzU d) kd) := ⟨fun m R E xf h => by
  rcases h with ⟨p, n, ks, ds, k, v, rfl, hm, h⟩ | h
  · refine .mk fun F σ H en at_ => ?_
    obtain ⟨F2, s2, q2⟩ := Step.freezeO at_.toAt hm
    exact SSs.step s2 (((hk _).run _ R E xf h).run F2 σ H (look_same (en.mono s2.ex) hl (hset _) q2) (at_.to s2))
  · exact (bf_frz hl hset hk).run m R E xf h⟩
end
/-! rules -/
section
variable {m : Led} {RD : D → Led → Prop} {E : XR} {ks : List (List Int)} {vs ds : List D} {k v d : D}
theorem isiA_o {cs : List Str} {n : String} (hn : n ∈ ["int", "bool", "list", "tuple", "dict", "str"]) (h : RD (.bl (n == "dict")) m) : isiA cs [.dO ks vs k v, .ty n] m RD E := .inl ⟨_, _, _, _, _, rfl, hn, h⟩
theorem isiA_m {cs : List Str} {xs : List D} (h : isiO cs xs m RD E) : isiA cs xs m RD E := .inr h
theorem seqA_o {R : List D → Led → Prop} (h : R (ks.map keyD ++ [k]) m) : seqA (.dO ks vs k v) m R E := .inl ⟨_, _, _, _, rfl, h⟩
theorem seqA_m {R : List D → Led → Prop} (h : seqM d m R E) : seqA d m R E := .inr h
theorem stA_new {R : Unit → Led → Prop} {a : Addr} {n : Nat} (hm : m[n]? = some (a, .dI ks vs)) (hl : ks.length < 100000) (ok : oddK k) (hn : ∀ b, k = .tup [.bl b] → [bitI b] ∉ ks) (h : R () (m.set n (a, .dO ks vs k v))) : stA (.ref a) k v m R E := .inl ⟨a, n, ks, vs, rfl, hm, hl, ok, .inl ⟨hn, h⟩⟩
theorem stA_m {R : Unit → Led → Prop} {o i : D} (h : stM o i v m R E) : stA o i v m R E := .inr h
theorem frzU_o {p : Addr} {n : Nat} (hm : m[n]? = some (p, .dO ks vs k v)) (h : RD (.dO ks vs k v) (m.eraseIdx n)) : frzU (.ref p) m RD E := .inl ⟨_, _, _, _, _, _, rfl, hm, h⟩
theorem frzU_m (h : frzM d m RD E) : frzU d m RD E := .inr h
end
end DL


namespace DL
open PySem PySem.Spec PySem.Calls PyProof.Rows L2 RZ

/-! ### d.pop(k, x) -/
section
variable {X : CD} {m : Led} {R : D → Led → Prop} {a : Addr} {ks : List (List Int)} {ds : List D} {k : List Int} {y : D} {n : Nat}
theorem b_popD2 (hu : X.A.units + 64 < cLine) (hm : m[n]? = some (a, .dI ks ds)) (kk : (∃ (i : Nat) (x : D), ks[i]? = some k ∧ ds[i]? = some x ∧ R x (m.set n (a, .dI (ks.eraseIdx i) (ds.eraseIdx i)))) ∨ (k ∉ ks ∧ R y m)) : BX X (.builtin "dict.pop") [.ref a, keyD k, y] m R := .mk fun F σ H xs pins s us qs at_ I rs => by
  obtain ⟨v1, v2, v3, rfl, q1, q2, q3⟩ := qs.three
  obtain ⟨u1, u2, u3, rfl, r1, r2, r3⟩ := vals3d rs
  cases q1
  obtain ⟨c, rfl, sq⟩ := key_read at_.toAt q2
  cases r1
  cases r2
  obtain ⟨hh, ⟨o, ys, vs, rfl, h2, h3, h4, hv, hs⟩, h1⟩ := at_.toAt.get hm
  have h4' : ∀ x ∈ ys, SqT X.K H x.2.1 (x.1.map V.int) := fun x hx => at_.toAt.sub.sqT (h4 x hx)
  have dh := dictI I h1 h2 h4'
  rcases kk with ⟨i, x, hk, hx, kk⟩ | ⟨hk, kk⟩
  · have hi : i < ys.length := by
      have := (List.getElem?_eq_some_iff.mp hk).1
      rw [← h3, List.length_map] at this
      exact this
    have ey : ys[i]? = some ys[i] := List.getElem?_eq_getElem hi
    have ek : ys[i].1 = k := by
      have : (ys.map (·.1))[i]? = some k := by rw [h3]; exact hk
      rw [List.getElem?_map, ey] at this
      exact Option.some.inj this
    obtain ⟨v, hv1, rv⟩ := vals_at hv hi
    have qv : Den X.K F v x := by
      obtain ⟨w, hw, qw⟩ := hs.get hx
      rw [hv1] at hw
      cases hw
      exact qw
    have ey2 : ys[i]? = some (k, ys[i].2) := by rw [ey, ← ek]
    refine call_pop_heap (knd := kI X.prog X.w) (.inr ⟨_, rfl⟩) (PySem.F.args_dict_pop_3 _ _ _) (roomI hu) (keyI I sq) h2.sys dh (by have := atKey_at h2.nod ey; rw [ek] at this; exact this) (fun h' hd' hs' => ?_) h2.len
    rw [← eraseIdx_withoutH h2.nod ey2] at hd'
    obtain ⟨o', ho', dobj⟩ := dictObj_of hd' (Nat.le_trans (List.length_eraseIdx_le ..) h2.len) h2.sys
    have dx : DicX X.K F (ys.eraseIdx i) (ks.eraseIdx i) (ds.eraseIdx i) := DicX.del ⟨vs, h3, h4, hv, hs⟩ i
    refine ⟨v, upd H a (objO a o'), I.write (x := a) (e := a) (by rw [h1]; exact True.intro) (.inl rfl) (fun b ub hb e => (hs'.2 b hb).trans e) ⟨_, ho'⟩ (objO_ok ho'), rv, ?_⟩
    have st := Step.write (o' := .dI (ks.eraseIdx i) (ds.eraseIdx i)) at_.toAt hm (dx.mden dobj)
    exact ⟨x, F, _, st, qv, kk⟩
  · refine call_pop_default_heap (knd := kI X.prog X.w) (roomI hu) (keyI I sq) h2.sys dh (atKey_none (by rw [h3]; exact hk)) (fun tk => ?_) h2.len
    exact ⟨v3, H, I.tok tk, r3, PQ.now at_.toAt q3 kk⟩
end
def popDM2 (d : D) (ys : List D) : M D := fun m R _ => ∃ (a : Addr) (k : List Int) (n : Nat) (ks : List (List Int)) (ds : List D) (y : D), d = .ref a ∧ ys = [keyD k, y] ∧ m[n]? = some (a, .dI ks ds) ∧ ((∃ (i : Nat) (x : D), ks[i]? = some k ∧ ds[i]? = some x ∧ R x (m.set n (a, .dI (ks.eraseIdx i) (ds.eraseIdx i)))) ∨ (k ∉ ks ∧ R y m))
section
variable {X : CD} {o e e2 : Expr} {ρ : Rn} {co : M D} {cs : M (List D)} {apos cpos : Pos}
theorem ev_popD2 (hu : X.A.units + 64 < cLine) (ho : Ev X o ρ co) (ha : EvA X [e, e2] ρ cs) (hbase : attributeBase o "pop" X.env (eval o X.env) = eval o X.env := by rfl)
    (hfew : ((backTo cpos (starEach [e, e2] X.env)).all (fun x => !x.1) && (backToKw cpos (keywordEach [] X.env)).all (fun x => x.1.isSome)
      && decide ([e, e2].length + ([] : List Keyword).length + (if ([] : List Keyword).isEmpty then 0 else 1) < 30)) = true := by rfl)
    (hline : (apos.endLine == cpos.line) = true := by rfl) (hs : starEach [e, e2] X.env = (false, eval e X.env) :: starEach [e2] X.env := by rfl) (hplain : (backTo cpos (starEach [e2] X.env)).any (·.1) = false := by rfl) :
    Ev X (.Call (.Attribute o "pop" apos) [e, e2] [] cpos) ρ (bnd co fun u => bnd (chkD u) fun _ => bnd cs (popDM2 u)) :=
  ev_mt ho ha (fun d m R E ⟨⟨ks, ds, hd⟩, r⟩ => ⟨"dict", "dict.pop", ⟨PySem.F.plainAttrs_dict, PySem.F.slot_dict_pop, PySem.F.type_dict_pop⟩, kd_dic hd, fun ys m R E ⟨a, k, n, ks, ds, y, ed, hy, hm, kk⟩ => by
    subst hy ed
    exact b_popD2 hu hm kk, r⟩) hbase hfew hline hs hplain
end
theorem popD2_in {a : Addr} {k : List Int} {ks : List (List Int)} {ds : List D} {x y : D} {m : Led} {R : D → Led → Prop} {E : XR} (n i : Nat) (hm : m[n]? = some (a, .dI ks ds)) (h1 : ks[i]? = some k) (h2 : ds[i]? = some x) (kk : R x (m.set n (a, .dI (ks.eraseIdx i) (ds.eraseIdx i)))) : popDM2 (.ref a) [keyD k, y] m R E := ⟨a, k, n, ks, ds, y, rfl, rfl, hm, .inl ⟨i, x, h1, h2, kk⟩⟩
theorem popD2_out {a : Addr} {k : List Int} {ks : List (List Int)} {ds : List D} {y : D} {m : Led} {R : D → Led → Prop} {E : XR} (n : Nat) (hm : m[n]? = some (a, .dI ks ds)) (h1 : k ∉ ks) (kk : R y m) : popDM2 (.ref a) [keyD k, y] m R E := ⟨a, k, n, ks, ds, y, rfl, rfl, hm, .inr ⟨h1, kk⟩⟩
/-! a test read with a ledger dict frozen -/
section
variable {X : CD} {e : Expr} {ρ ρ' : Rn} {m : Led} {R : Bool → Led → Prop} {x : Str} {i n : Nat} {p : Addr} {ks : List (List Int)} {ds : List D}
theorem t_thaw (hm : m[n]? = some (p, .dI ks ds)) (hl : LookAt ρ i x (.ref p)) (hs : SetAt ρ i x (.dI ks ds) ρ') (h : TX X e ρ' (m.eraseIdx n) fun k m2 => noDL m2 ∧ R k (m2 ++ [(p, .dI ks ds)])) : TX X e ρ m R := .mk fun F σ H en at_ => by
  obtain ⟨hh, md, hF, e, st⟩ := Step.frz at_.toAt hm
  obtain ⟨o, xs, vs, rfl, h1, h2, h3, h4, h5⟩ := id md
  have q : Den X.K (upd F p (objO p o)) (.ref p) (.dI ks ds) := .dI upd_same h1 h2 (fun x hx => st.ex.sqT (h3 x hx)) h4 (h5.mono st.ex)
  refine (h.run _ σ H (look_same (en.mono st.ex) hl hs q) (at_.to st)).mono fun v H2 ⟨F2, m2, s2, ndl, r⟩ => ?_
  exact ⟨_, _, Step.thaw at_.toAt hm md s2 ndl, r⟩
end
def thawT (d : D) (c : D → M Bool) : M Bool := fun m R E => match d with
  | .ref a => ∃ (n : Nat) (ks : List (List Int)) (ds : List D), m[n]? = some (a, .dI ks ds) ∧ c (.dI ks ds) (m.eraseIdx n) (fun r m2 => noDL m2 ∧ R r (m2 ++ [(a, .dI ks ds)])) NoX
  | d => c d m R NoX
section
variable {X : CD} {e : Expr} {ρ : Rn} {x : Str} {i : Nat} {d : D}
theorem tv_thaw {cf : D → M Bool} {ρd : D → Rn} (hl : LookAt ρ i x d) (hset : ∀ u, SetAt ρ i x u (ρd u)) (h : ∀ u, Tv X e (ρd u) (cf u)) : Tv X e ρ (thawT d cf) := ⟨fun m R E xa hh => by
  have self : ∀ {d}, LookAt ρ i x d → ρd d = ρ := fun {d} hl => by
    obtain ⟨h1, _⟩ := (hset d).eq
    rw [h1]
    apply List.ext_getElem?
    intro j
    by_cases hj : i = j
    · subst hj
      rw [List.getElem?_set_self (List.getElem?_eq_some_iff.mp hl.get).1, hl.get]
    · rw [List.getElem?_set_ne hj]
  cases d with
  | ref q =>
    obtain ⟨n, ks, ds, hm, hh⟩ := hh
    exact t_thaw hm hl (hset _) ((h _).run _ _ NoX (fun _ _ _ z => z.elim) hh)
  | _ =>
    have := (h _).run m R NoX (fun _ _ _ z => z.elim) hh
    rw [self hl] at this
    exact this⟩
end
theorem thawT_i {q : Addr} {ks : List (List Int)} {ds : List D} {c : D → M Bool} {m : Led} {R : Bool → Led → Prop} {E : XR} (n : Nat) (hm : m[n]? = some (q, .dI ks ds)) (h : c (.dI ks ds) (m.eraseIdx n) (fun r m2 => noDL m2 ∧ R r (m2 ++ [(q, .dI ks ds)])) NoX) : thawT (.ref q) c m R E := ⟨n, ks, ds, hm, h⟩
end DL


namespace DL
open PySem PySem.Spec PyProof.Rows L2 RZ
/-- a ratio as data -/
abbrev Q := Int × Int
@[reducible] def rat (q : Q) : D := .tup [.int q.1, .int q.2]
def Bd (n : Nat) (i : Int) : Prop := i.natAbs < 2 ^ n
theorem Bd.up {a b : Nat} {i : Int} (h : Bd a i) (hl : a ≤ b) : Bd b i := Nat.lt_of_lt_of_le h (Nat.pow_le_pow_right (by decide) hl)
theorem Bd.subR {a b : Nat} {i j : Int} (h1 : Bd a i) (h2 : Bd b j) : Bd (max a b + 1) (i - j) := by
  have p1 : Bd (max a b) i := h1.up (Nat.le_max_left _ _)
  have p2 : Bd (max a b) j := h2.up (Nat.le_max_right _ _)
  unfold Bd at p1 p2 ⊢
  rw [Nat.pow_succ]
  omega
theorem Bd.lit (k : Nat) : Bd (k.log2 + 1) (OfNat.ofNat k : Int) := by
  unfold Bd
  exact Nat.lt_log2_self
theorem Bd.one : Bd 1 (1 : Int) := by unfold Bd; decide
theorem Bd.mul {a b : Nat} {i j : Int} (h1 : Bd a i) (h2 : Bd b j) (h : a + b ≤ 900000) : IntMulOk i j := by
  refine (CMulW.ok ?_)
  refine wide_mul (a := a + 1) (b := b + 1) ?_ ?_ (Nat.succ_pos _) (Nat.succ_pos _) (by omega)
  · exact Nat.lt_of_lt_of_le h1 (Nat.pow_le_pow_right (by decide) (Nat.le_succ _))
  · exact Nat.lt_of_lt_of_le h2 (Nat.pow_le_pow_right (by decide) (Nat.le_succ _))
theorem Bd.divG {a : Nat} {i j : Int} (h : Bd a j) (h0 : j ≠ 0) (ha : a ≤ 8000) : CDivG i j := by
  refine ⟨h0, ?_⟩
  have h1 : j.natAbs < 2 ^ (a + 1) := Nat.lt_of_lt_of_le h (Nat.pow_le_pow_right (by decide) (Nat.le_succ _))
  have := PySem.Flt.log2_lt_of (Nat.succ_pos _) h1
  omega
/-- a ratio whose parts are below 2 ^ n -/
def Rb (n : Nat) (q : Q) : Prop := Bd n q.1 ∧ Bd n q.2
theorem nb_int (n : Nat) (i : Int) : NB n (.int i) := by cases n <;> trivial
theorem nb_tup {α : Type} {f : α → D} {n : Nat} {xs : List α} (h : ∀ x ∈ xs, NB n (f x)) : NB (n + 1) (.tup (xs.map f)) := fun x hx => by
  obtain ⟨a, ha, rfl⟩ := List.mem_map.mp hx
  exact h a ha
/-- the greatest common divisor of a list -/
def gL (ns : List Int) : Nat := ns.foldl (fun g n => Nat.gcd n.natAbs g) 0
/-- lowest terms, the bottom above 0 -/
def Nf (q : Q) : Prop := 0 < q.2 ∧ Int.gcd q.1 q.2 = 1
def piece (u d : Int) : Int := if d < 0 then -(Int.gcd u d : Int) else (Int.gcd u d : Int)
def mkQ (u d : Int) : Q := (u.fdiv (piece u d), d.fdiv (piece u d))
def lowL (ns : List Int) : List Int := if gL ns = 0 then ns else ns.map fun n => n.fdiv (gL ns : Nat)
def plusQ (p q : Q) : Q := mkQ (p.1 * q.2 + q.1 * p.2) (p.2 * q.2)
def minusQ (p q : Q) : Q := mkQ (p.1 * q.2 - q.1 * p.2) (p.2 * q.2)
def timesQ (p q : Q) : Q := mkQ (p.1 * q.1) (p.2 * q.2)
def cmpR (p q : Q) : Int := (if p.1 * q.2 > q.1 * p.2 then 1 else 0) - (if p.1 * q.2 < q.1 * p.2 then 1 else 0)
@[reducible] def poolO (at_ cur : Int) (ns : List Int) : MO := .lst [.int at_, .int cur, .lst (ns.map D.int)]

/-! ### rules about mirrors -/
section
variable {m : Led} {E : XR}
theorem atI_0 {α : Type} {a : α} {t : List α} : atI (a :: t) 0 = some a := atI_nat (j := 0) rfl
theorem atI_1 {α : Type} {a b : α} {t : List α} : atI (a :: b :: t) 1 = some b := atI_nat (j := 1) rfl
theorem atI_2 {α : Type} {a b c : α} {t : List α} : atI (a :: b :: c :: t) 2 = some c := atI_nat (j := 2) rfl
theorem atI_3 {α : Type} {a b c d : α} {t : List α} : atI (a :: b :: c :: d :: t) 3 = some d := atI_nat (j := 3) rfl
theorem eqD_int {i j : Int} : eqD (.int i) (.int j) = decide (i = j) := by
  simp only [eqD, py, PyData.eqv]
  by_cases h : i = j
  · subst h; simp
  · simp [h]
theorem eqB_int {i j : Int} {R : Bool → Led → Prop} : eqB (.int i) (.int j) m R E = R (decide (i = j)) m := by
  have e : eqD (.int i) (.int j) = decide (i = j) := eqD_int
  apply propext
  constructor
  · rintro (⟨a, b, h1, h2, _, _, r⟩ | ⟨ks, ds, ls, es, h1 | ⟨_, _, h1, _⟩, _⟩)
    · cases h1
      cases h2
      rw [e] at r
      exact r
    · cases h1
    · cases h1
  · intro r
    exact .inl ⟨_, _, .now _, .now _, trivial, trivial, by rw [e]; exact r⟩
theorem neB_int {i j : Int} {R : Bool → Led → Prop} : neB (.int i) (.int j) m R E = R (!decide (i = j)) m := by
  have e : eqD (.int i) (.int j) = decide (i = j) := eqD_int
  apply propext
  constructor
  · rintro (⟨a, b, h1, h2, _, _, r⟩ | ⟨ks, ds, ls, es, h1 | ⟨_, _, h1, _⟩, _⟩)
    · cases h1
      cases h2
      rw [e] at r
      exact r
    · cases h1
    · cases h1
  · intro r
    exact .inl ⟨_, _, .now _, .now _, trivial, trivial, by rw [e]; exact r⟩
theorem truB_bl {i : Bool} {R : Bool → Led → Prop} : truB (.bl i) m R E = R i m := by
  apply propext
  constructor
  · rintro ⟨k, h, r⟩
    cases h
    exact r
  · exact fun r => ⟨_, rfl, r⟩
/-- a comprehension whose turns change nothing -/
theorem comp_map {α : Type} {f : D → M (Option D)} {e : α → D} {g : α → D} {R : List D → Led → Prop} : ∀ (xs : List α) (acc : List D), (∀ x ∈ xs, ∀ Q : Option D → Led → Prop, Q (some (g x)) m → f (e x) m Q NoX) → acc.length + xs.length ≤ 100000 → R (acc ++ xs.map g) m → compM f (xs.map e) acc m R E
  | [], acc, _, _, h => by simp at h; exact h
  | x :: xs, acc, hf, hl, h => by
    refine hf x List.mem_cons_self _ ⟨by simp at hl; omega, ?_⟩
    refine comp_map xs (acc ++ [g x]) (fun y hy => hf y (List.mem_cons_of_mem _ hy)) (by simp at hl ⊢; omega) ?_
    simpa using h
theorem comp_filter {α : Type} {f : D → M (Option D)} {e : α → D} {g : α → D} {p : α → Bool} {R : List D → Led → Prop} : ∀ (xs : List α) (acc : List D), (∀ x ∈ xs, ∀ Q : Option D → Led → Prop, (p x = true → Q (some (g x)) m) → (p x = false → Q none m) → f (e x) m Q NoX) → acc.length + xs.length ≤ 100000 → R (acc ++ (xs.filter p).map g) m → compM f (xs.map e) acc m R E
  | [], acc, _, _, h => by simp at h; exact h
  | x :: xs, acc, hf, hl, h => by
    refine hf x List.mem_cons_self _ (fun hp => ⟨by simp at hl; omega, ?_⟩) (fun hp => ?_)
    · refine comp_filter xs (acc ++ [g x]) (fun y hy => hf y (List.mem_cons_of_mem _ hy)) (by simp at hl ⊢; omega) ?_
      rw [List.filter_cons_of_pos hp] at h
      simpa using h
    · refine comp_filter xs acc (fun y hy => hf y (List.mem_cons_of_mem _ hy)) (by simp at hl ⊢; omega) ?_
      rw [List.filter_cons_of_neg (by simp [hp])] at h
      exact h
/-- a for loop by an invariant over the items that are left -/
theorem for_ind {α σ τ : Type} {f : D → σ → M (Fl σ σ)} {e : α → D} {R : Fl σ τ → Led → Prop} (I : List α → σ → Led → Prop) (hs : ∀ x xs s m, I (x :: xs) s m → ∀ Q : Fl σ σ → Led → Prop, (∀ s' m', I xs s' m' → Q (.nx s') m') → (∀ d m', R (.rt d) m' → Q (.rt d) m') → (∀ s' m', R (.nx s') m' → Q (.bk s') m') → f (e x) s m Q E) (he : ∀ s m, I [] s m → R (.nx s) m) :
    ∀ (xs : List α) (s : σ) (m : Led), I xs s m → forF f (xs.map e) s m R E
  | [], s, m, h => he s m h
  | x :: xs, s, m, h => hs x xs s m h _ (fun s' m' h' => for_ind I hs he xs s' m' h') (fun d m' h' => h') (fun s' m' h' => h')
end
end DL


namespace DL
open PySem PySem.Spec PyProof.Rows L2 RZ
/-! ### steps of a mirror, from the head -/
section
variable {α β σ σ' τ : Type} {m m' : Led} {E : XR} {RD : D → Led → Prop} {RB : Bool → Led → Prop} {RL : List D → Led → Prop} {d x y a b : D} {i j : Int} {ds es : List D}
theorem ret_i {a : α} {R : α → Led → Prop} (h : R a m) : ret a m R E := h
theorem bnd_i {c : M α} {k : α → M β} {R : β → Led → Prop} (h : c m (fun a m' => k a m' R E) E) : bnd c k m R E := h
theorem rtM_i {R : Fl σ τ → Led → Prop} (h : R (.rt d) m) : rtM d m R E := h
theorem fnM_i {c : M (Fl Unit Empty)} (h : c m (fnR m RD) fun nm fd m' => E nm fd (m'.take m.length)) : fnM c m RD E := h
theorem fnK_i {c : M (Fl Unit Empty)} (h : c m (fnRK RD) E) : fnK c m RD E := h
theorem fnRK_i (h : RD d m) : fnRK RD (.rt d) m := h
theorem fnR_same (h : RD d m) : fnR m RD (.rt d) m := by show RD d (m.take m.length); rw [List.take_length]; exact h
theorem fnR_len (e : m'.length = m.length) (h : RD d m') : fnR m RD (.rt d) m' := by show RD d (m'.take m.length); rw [← e, List.take_length]; exact h
theorem fnR_nx (h : RD .non m) : fnR m RD (.nx ()) m := by show RD .non (m.take m.length); rw [List.take_length]; exact h
theorem fnR_rt (h : RD d (m'.take m.length)) : fnR m RD (.rt d) m' := h
theorem seqF_i {c : M (Fl σ τ)} {k : σ → M (Fl σ' τ)} {R : Fl σ' τ → Led → Prop} (h : c m (fun a m' => seqK k a m' R E) E) : seqF c k m R E := h
theorem seqK_nx {s : σ} {k : σ → M (Fl σ' τ)} {R : Fl σ' τ → Led → Prop} (h : k s m R E) : seqK k (.nx s) m R E := h
theorem seqK_rt {k : σ → M (Fl σ' τ)} {R : Fl σ' τ → Led → Prop} (h : R (.rt d) m) : seqK k (.rt d) m R E := h
theorem upF_i {R : Fl σ τ → Led → Prop} (h : R (.rt d) m) : upF (.rt d) m R E := h
theorem iteM_i {k : Bool} {a b : M α} {R : α → Led → Prop} (h1 : k = true → a m R E) (h2 : k = false → b m R E) : iteM k a b m R E := ⟨h1, h2⟩
theorem iteM_ti {a b : M α} {R : α → Led → Prop} (h : a m R E) : iteM true a b m R E := ⟨fun _ => h, fun z => nomatch z⟩
theorem iteM_fi {a b : M α} {R : α → Led → Prop} (h : b m R E) : iteM false a b m R E := ⟨fun z => (nomatch z), fun _ => h⟩
/-- a test whose answer is a decision -/
theorem iteM_dec {p : Prop} {inst : Decidable p} {a b : M α} {R : α → Led → Prop} (h1 : p → a m R E) (h2 : ¬ p → b m R E) : iteM (decide p) a b m R E := ⟨fun e => h1 (of_decide_eq_true e), fun e => h2 (of_decide_eq_false e)⟩
theorem add_i (h : RD (.int (i + j)) m) : binM .Add (.int i) (.int j) m RD E := h
theorem sub_i (h : RD (.int (i - j)) m) : binM .Sub (.int i) (.int j) m RD E := h
theorem mul_i (c : IntMulOk i j) (h : RD (.int (i * j)) m) : binM .Mult (.int i) (.int j) m RD E := ⟨c, h⟩
theorem fdiv_i (c : CDivG i j) (h : RD (.int (i.fdiv j)) m) : binM .FloorDiv (.int i) (.int j) m RD E := ⟨c, h⟩
theorem mod_i (c : 0 < j) (h : RD (.int (i % j)) m) : binM .Mod (.int i) (.int j) m RD E := ⟨by omega, by rw [Int.fmod_eq_emod_of_nonneg _ (Int.le_of_lt c)]; exact h⟩
theorem pow_i (c : CPow i j) (h : RD (.int (i ^ j.toNat)) m) : binM .Pow (.int i) (.int j) m RD E := ⟨c, h⟩
theorem cat_i (c : ds.length + es.length ≤ 100000) (h : RD (.lst (ds ++ es)) m) : binM .Add (.lst ds) (.lst es) m RD E := ⟨c, h⟩
theorem neg_i (h : RD (.int (-i)) m) : unM .USub (.int i) m RD E := h
theorem eq_i (h : RB (decide (i = j)) m) : cmpB .Eq (.int i) (.int j) m RB E := by show eqB _ _ m RB E; rw [eqB_int]; exact h
theorem ne_i (h : RB (!decide (i = j)) m) : cmpB .NotEq (.int i) (.int j) m RB E := by show neB _ _ m RB E; rw [neB_int]; exact h
theorem lt_i (h : RB (decide (i < j)) m) : cmpB .Lt (.int i) (.int j) m RB E := h
theorem le_i (h : RB (decide (i ≤ j)) m) : cmpB .LtE (.int i) (.int j) m RB E := h
theorem gt_i (h : RB (decide (j < i)) m) : cmpB .Gt (.int i) (.int j) m RB E := h
theorem ge_i (h : RB (decide (j ≤ i)) m) : cmpB .GtE (.int i) (.int j) m RB E := h
theorem cmpM_i {op : CmpOp} (h : cmpB op a b m (fun k m' => RD (.bl k) m') E) : cmpM op a b m RD E := h
theorem tru_bl {k : Bool} (h : RB k m) : truB (.bl k) m RB E := by rw [truB_bl]; exact h
theorem notB_i {k : Bool} (h : RB (!k) m) : notB k m RB E := h
theorem notB_t (h : RB false m) : notB true m RB E := h
theorem notB_f (h : RB true m) : notB false m RB E := h
theorem notM_t (h : RD (.bl false) m) : notM (.bl true) m RD E := ⟨true, rfl, h⟩
theorem notM_f (h : RD (.bl true) m) : notM (.bl false) m RD E := ⟨false, rfl, h⟩
theorem andB_t {c : M Bool} (h : c m RB E) : andB c true m RB E := iteM_ti h
theorem andB_f {c : M Bool} (h : RB false m) : andB c false m RB E := iteM_fi h
theorem orB_t {c : M Bool} (h : RB true m) : orB c true m RB E := iteM_ti h
theorem orB_f {c : M Bool} (h : c m RB E) : orB c false m RB E := iteM_fi h
theorem andM_i {k : Bool} {c : M D} (h1 : k = true → c m RD E) (h2 : k = false → RD (.bl false) m) : andM c (.bl k) m RD E := ⟨k, rfl, h1, h2⟩
theorem andM_ti {c : M D} (h : c m RD E) : andM c (.bl true) m RD E := ⟨true, rfl, fun _ => h, fun z => nomatch z⟩
theorem andM_fi {c : M D} (h : RD (.bl false) m) : andM c (.bl false) m RD E := ⟨false, rfl, fun z => (nomatch z), fun _ => h⟩
theorem ixT_i {v : D} (e : atI ds i = some v) (h : RD v m) : ixM (.tup ds) (.int i) m RD E := ⟨v, e, h⟩
theorem ixL_i {v : D} (e : atI ds i = some v) (h : RD v m) : ixM (.lst ds) (.int i) m RD E := ⟨v, e, h⟩
theorem ixR_i {p : Addr} {v : D} (n : Nat) (hm : m[n]? = some (p, .lst ds)) (e : atI ds i = some v) (h : RD v m) : ixM (.ref p) (.int i) m RD E := ⟨n, ds, v, hm, e, h⟩
theorem mkT_i (e : ds.length ≤ 100000) (h : RD (.tup ds) m) : mkT ds m RD E := ⟨e, h⟩
theorem mkL_i (e : ds.length ≤ 100000) (h : RD (.lst ds) m) : mkL ds m RD E := ⟨e, h⟩
theorem newL_i (e : ds.length ≤ 100000) (h : ∀ p, RD (.ref p) (m ++ [(p, .lst ds)])) : newL ds m RD E := ⟨e, h⟩
theorem int_i (h : RD (.int i) m) : intM [.int i] m RD E := h
theorem int_b {k : Bool} (h : RD (.int (if k then 1 else 0)) m) : intM [.bl k] m RD E := h
theorem max_i (h : RD (.int (max i j)) m) : maxM [.int i, .int j] m RD E := h
theorem min_i (h : RD (.int (min i j)) m) : minM [.int i, .int j] m RD E := h
theorem len_T (h : RD (.int (ds.length : Nat)) m) : lenM [.tup ds] m RD E := h
theorem len_L (h : RD (.int (ds.length : Nat)) m) : lenM [.lst ds] m RD E := h
theorem list_K (h : RD (.lst ds) m) : listM [.lsk ds] m RD E := h
theorem sum_L {ns : List Int} (h : RD (.int ns.sum) m) : sumM [.lst (ns.map D.int)] m RD E := ⟨ns, rfl, h⟩
theorem all_L {bs : List Bool} (h : RD (.bl (bs.all id)) m) : allM [.lst (bs.map D.bl)] m RD E := ⟨bs, rfl, h⟩
theorem seq_T (h : RL ds m) : seqM (.tup ds) m RL E := h
theorem seq_L (h : RL ds m) : seqM (.lst ds) m RL E := h
theorem rng_i (h1 : -100000 ≤ j) (h2 : j ≤ 100000) (h : RL (rangeD 0 j.toNat) m) : rngM (.int j) m RL E := ⟨h1, h2, h⟩
theorem zip_T (h : RL (zipD ds es) m) : zipM (.tup ds) (.tup es) m RL E := h
theorem lsM_i (h : RD (.lst ds) m) : lsM ds m RD E := h
theorem someM_i {R : Option D → Led → Prop} (h : R (some d) m) : someM d m R E := h
theorem un2_i {k : D → D → M (Option D)} {R : Option D → Led → Prop} (h : k a b m R E) : un2 (.tup [a, b]) k m R E := ⟨a, b, rfl, h⟩
theorem st_i {p : Addr} {R : Unit → Led → Prop} (n k : Nat) (hm : m[n]? = some (p, .lst ds)) (hj : ixN ds.length i = some k) (h : R () (m.set n (p, .lst (ds.set k y)))) : stM (.ref p) (.int i) y m R E := ⟨n, ds, k, hm, hj, h⟩
theorem rai_i {nm : Str} {fd : Option (Str × D)} {R : α → Led → Prop} (h : E nm fd m) : raiM nm fd m R E := h
theorem get_last {M0 : Led} {x : Addr × MO} : (M0 ++ [x])[M0.length]? = some x := List.getElem?_concat_length
theorem rangeD_map (n : Nat) : rangeD 0 n = (List.range n).map fun (k : Nat) => D.int (k : Int) := by
  unfold rangeD
  apply List.map_congr_left
  intro k _
  rw [Int.zero_add]
theorem sp1_i {f : D → M D} (h : f a m RD E) : sp1 f [a] m RD E := h
theorem sp3_i {c : D} {f : D → D → D → M D} (h : f a b c m RD E) : sp3 f [a, b, c] m RD E := h
theorem sp2_i {f : D → D → M D} (h : f a b m RD E) : sp2 f [a, b] m RD E := h
end
end DL


namespace DL
open PySem PySem.Spec PyProof.Rows L2 RZ
/-! ### rules for mirrors of dicts, instances, sorted .. -/
section
variable {α β σ σ' τ : Type} {m m' : Led} {E : XR} {RD : D → Led → Prop} {RB : Bool → Led → Prop} {RL : List D → Led → Prop} {d x y a b v : D} {i j : Int} {ds es vs : List D} {ks ls : List (List Int)} {k : List Int} {cn mt f : Str} {ns : List Str} {cs : List Str}
theorem isiO_p {n t : String} (ht : tyD d = some t) (hn : n ∈ tyNames) (h : RD (.bl (isiD t n)) m) : isiO cs [d, .ty n] m RD E := by
  have hk : t ∈ kinds2 := by cases d <;> simp only [tyD, Option.some.injEq, reduceCtorEq] at ht <;> subst ht <;> decide +kernel
  exact ⟨hn, .inl ⟨t, hk, .plain ht, h⟩⟩
theorem isiO_pt {nn : List String} {t : String} (ht : tyD d = some t) (hn : ∀ n ∈ nn, n ∈ tyNames) (h : RD (.bl (nn.any (isiD t))) m) : isiO cs [d, .tup (nn.map .ty)] m RD E := by
  have hk : t ∈ kinds2 := by cases d <;> simp only [tyD, Option.some.injEq, reduceCtorEq] at ht <;> subst ht <;> decide +kernel
  exact ⟨nn, rfl, hn, .inl ⟨t, hk, .plain ht, h⟩⟩
theorem isiO_d {n : String} (hn : n ∈ tyNames) (hd : DicV m d ks vs) (h : RD (.bl (isiD "dict" n)) m) : isiO cs [d, .ty n] m RD E := ⟨hn, .inl ⟨"dict", by decide +kernel, .dic hd, h⟩⟩
theorem isiO_pr {n t : String} {r : Bool} (ht : tyD d = some t) (hn : n ∈ tyNames) (er : isiD t n = r) (h : RD (.bl r) m) : isiO cs [d, .ty n] m RD E := isiO_p ht hn (by rw [er]; exact h)
theorem isiO_dr {n : String} {r : Bool} (hn : n ∈ tyNames) (er : isiD "dict" n = r) (h : RD (.bl r) m) : isiO cs [.dI ks vs, .ty n] m RD E := isiO_d hn (.inl rfl) (by rw [er]; exact h)
theorem isiO_2 {a c t : String} {r : Bool} (ht : tyD d = some t) (ha : a ∈ tyNames) (hc : c ∈ tyNames) (er : (isiD t a || isiD t c) = r) (h : RD (.bl r) m) : isiO cs [d, .tup [.ty a, .ty c]] m RD E :=
  isiO_pt (nn := [a, c]) ht (by simp [ha, hc]) (by simp only [List.any_cons, List.any_nil, Bool.or_false]; rw [er]; exact h)
theorem iteM_nti {a b : M α} {R : α → Led → Prop} (h : b m R E) : iteM (!true) a b m R E := iteM_fi h
theorem iteM_nfi {a b : M α} {R : α → Led → Prop} (h : a m R E) : iteM (!false) a b m R E := iteM_ti h
theorem star_L (h : RL ds m) : starL (.lst ds) m RL E := ⟨ds, .inl (.inl rfl), h⟩
theorem star_T (h : RL ds m) : starL (.tup ds) m RL E := ⟨ds, .inr rfl, h⟩
theorem lrg_f (h1 : -100000 ≤ j) (h2 : j ≤ 100000) (h : RD (.lst (rangeD 0 j.toNat)) m) : lrgG false (.int j) m RD E := ⟨h1, h2, h⟩
theorem trg_i (h1 : -100000 ≤ j) (h2 : j ≤ 100000) (h : RD (.tup (rangeD 0 j.toNat)) m) : trgM (.int j) m RD E := ⟨h1, h2, h⟩
theorem chainB_i {op : CmpOp} {c : M D} {b : Bool} (h1 : b = true → c m (fun z m' => cmpB op y z m' RB E) E) (h2 : b = false → RB false m) : chainB op y c b m RB E := ⟨h1, h2⟩
theorem catT_i (c : ds.length + es.length ≤ 100000) (h : RD (.tup (ds ++ es)) m) : binM .Add (.tup ds) (.tup es) m RD E := ⟨c, h⟩
/-- the sorted list is the one -/
theorem sorted_uniq : ∀ {l r : List (List Int)}, l.Perm r → l.Pairwise (fun a c => lexI c a = false) → r.Pairwise (fun a c => lexI c a = false) → l = r
  | [], r, p, _, _ => by rw [List.Perm.nil_eq p]
  | x :: l, [], p, _, _ => by simpa using p.length_eq
  | x :: l, y :: r, p, h1, h2 => by
    have hx : x ∈ y :: r := p.mem_iff.mp (by simp)
    have hy : y ∈ x :: l := p.mem_iff.mpr (by simp)
    have e : x = y := by
      rcases List.mem_cons.mp hx with e | hx
      · exact e
      rcases List.mem_cons.mp hy with e | hy
      · exact e.symm
      exact lexI_eq ((List.pairwise_cons.mp h2).1 x hx) ((List.pairwise_cons.mp h1).1 y hy)
    subst e
    rw [sorted_uniq (List.Perm.cons_inv p) (List.pairwise_cons.mp h1).2 (List.pairwise_cons.mp h2).2]
theorem sortT_f {rs : List (List Int)} (ho : SrtOk ks) (hp : rs.Perm ks) (hs : rs.Pairwise (fun a c => lexI c a = false)) (h : RD (.lst (rs.map keyD)) m) : sortG false [.lst (ks.map keyD)] m RD E := .inl ⟨ks, .inl rfl, ho, fun ks' h1 h2 => by
  rw [sorted_uniq (h1.trans hp.symm) h2 hs]; exact h⟩
/-! dicts -/
theorem dict_t {kvs : List (List Int × D)} (e : ds = kvs.map pairD) (nd : (kvs.map (·.1)).Nodup) (hl : kvs.length ≤ 100000) (h : ∀ p, RD (.ref p) (m ++ [(p, .dI (kvs.map (·.1)) (kvs.map (·.2)))])) : dictG true [.lst ds] m RD E := .inl ⟨kvs, .inl (by rw [e]), nd, hl, h⟩
theorem dictD_f (hv : DicV m d ks vs) (nd : (ks.map hI).Nodup) (h : RD (.dI ks vs) m) : dictG false [d] m RD E := .inr (.inl ⟨ks, vs, hv, nd, h⟩)
theorem ixD_i (n : Nat) (hk : ks[n]? = some k) (hv : vs[n]? = some v) (h : RD v m) : ixM (.dI ks vs) (keyD k) m RD E := ⟨k, n, v, rfl, hk, hv, h⟩
theorem len_D (h : RD (.int (ks.length : Nat)) m) : lenM [.dI ks vs] m RD E := h
theorem seq_D (h : RL (ks.map keyD) m) : seqM (.dI ks vs) m RL E := h
theorem stD_i {p : Addr} {R : Unit → Led → Prop} (q n : Nat) (hm : m[q]? = some (p, .dI ks vs)) (hl : ks.length < 100000) (hk : ks[n]? = some k) (h : R () (m.set q (p, .dI ks (vs.set n y)))) : stM (.ref p) (keyD k) y m R E := ⟨q, ks, vs, k, hm, rfl, hl, .inl ⟨n, hk, h⟩⟩
theorem frzD_i {p : Addr} (n : Nat) (hm : m[n]? = some (p, .dI ks vs)) (h : RD (.dI ks vs) (m.eraseIdx n)) : frzM (.ref p) m RD E := .inr ⟨n, ks, vs, hm, h⟩
theorem thaw_i {p : Addr} {c : D → M D} (n : Nat) (hm : m[n]? = some (p, .dI ks vs)) (h : c (.dI ks vs) (m.eraseIdx n) (fun r m2 => noD r = true ∧ noDL m2 ∧ RD r (m2 ++ [(p, .dI ks vs)])) NoX) : thawM (.ref p) c m RD E := ⟨n, ks, vs, hm, h⟩
/-- {k: f k for k in ks} -/
theorem dc_map {f : D → M (Option (D × D))} {g : List Int → D} (ks : List (List Int)) (nd : ks.Nodup) (hl : ks.length ≤ 100000) (hf : ∀ k ∈ ks, ∀ (R : Option (D × D) → Led → Prop), R (some (keyD k, g k)) m → f (keyD k) m R NoX) {R : List (List Int) × List D → Led → Prop} (h : R (ks, ks.map g) m) : dcM f (ks.map keyD) [] [] m R E := by
  have key : ∀ (done rest : List (List Int)), done ++ rest = ks → dcM f (rest.map keyD) done (done.map g) m R E := by
    intro done rest
    induction rest generalizing done with
    | nil => intro e; rw [List.append_nil] at e; subst e; exact h
    | cons k rest ih =>
      intro e
      have hk : k ∈ ks := by rw [← e]; simp
      refine hf k hk _ ?_
      refine ⟨k, rfl, ?_, .inl ⟨?_, ?_⟩⟩
      · have := congrArg List.length e
        simp at this
        omega
      · rw [← e] at nd
        intro z
        have := (List.nodup_append.mp nd).2.2 k z k (by simp)
        exact this rfl
      · have := ih (done ++ [k]) (by simpa using e)
        simpa using this
  simpa using key [] ks rfl
theorem dicG_f {q : List (List Int) × List D} (h : RD (.dI q.1 q.2) m) : dicG false q m RD E := h
theorem dicG_t {q : List (List Int) × List D} (h : ∀ p, RD (.ref p) (m ++ [(p, .dI q.1 q.2)])) : dicG true q m RD E := h
theorem pairM_i {R : Option (D × D) → Led → Prop} (h : R (some (x, y)) m) : pairM x y m R E := h
/-- == of dicts with the same keys -/
theorem lookD_at : ∀ {ks : List (List Int)} {vs : List D} {n : Nat} {k : List Int} {v : D}, ks.Nodup → ks[n]? = some k → vs[n]? = some v → lookD ks vs k = some v
  | [], _, n, k, v, _, h, _ => by simp at h
  | _ :: _, [], n, k, v, _, _, h => by simp at h
  | x :: ks, y :: vs, 0, k, v, _, h1, h2 => by simp at h1 h2; subst h1 h2; simp [lookD]
  | x :: ks, y :: vs, n + 1, k, v, nd, h1, h2 => by
    have h1' : ks[n]? = some k := by simpa using h1
    have ne : x ≠ k := fun e => (List.nodup_cons.mp nd).1 (e ▸ List.mem_of_getElem? h1')
    simp only [lookD, if_neg ne]
    exact lookD_at (List.nodup_cons.mp nd).2 h1' (by simpa using h2)
theorem rowsD_same {ls : List (List Int)} {es : List D} (hn : ∀ e ∈ es, NB 20 e) : ∀ {ks : List (List Int)} {vs : List D}, ks.length = vs.length → (∀ (n : Nat) k v, ks[n]? = some k → vs[n]? = some v → lookD ls es k = some v ∧ NB 20 v) → rowsD ls es ks vs = true
  | [], _, _, _ => rfl
  | k :: ks, [], h, _ => by simp at h
  | k :: ks, v :: vs, h, hh => by
    obtain ⟨h1, h2⟩ := hh 0 k v rfl rfl
    simp only [rowsD, h1]
    have e : PyData.eqv (py v) (py v) = true := (eqv_iff 20 20 v v h2 h2).mpr rfl
    rw [e, Bool.true_and]
    exact rowsD_same hn (by simpa using h) fun n k' v' g1 g2 => hh (n + 1) k' v' (by simpa using g1) (by simpa using g2)
theorem eqDic_same (nd : ks.Nodup) (hl : ks.length = vs.length) (hn : ∀ e ∈ vs, NB 20 e) : eqDic ks vs ks vs = true := by
  unfold eqDic
  rw [rowsD_same hn hl fun n k v h1 h2 => ⟨lookD_at nd h1 h2, hn v (List.mem_of_getElem? h2)⟩]
  simp
theorem eqDic_i (h1 : DicV m a ks vs) (h2 : DicV m b ks vs) (nd : ks.Nodup) (hl : ks.length = vs.length) (hn : ∀ e ∈ vs, NB 20 e) (h : RB true m) : cmpB .Eq a b m RB E := .inr ⟨ks, vs, ks, vs, h1, h2, fun d hd => (hn d hd).sh, fun d hd => (hn d hd).sh, by rw [eqDic_same nd hl hn]; exact h⟩
theorem neDic_i (h1 : DicV m a ks vs) (h2 : DicV m b ks vs) (nd : ks.Nodup) (hl : ks.length = vs.length) (hn : ∀ e ∈ vs, NB 20 e) (h : RB false m) : cmpB .NotEq a b m RB E := .inr ⟨ks, vs, ks, vs, h1, h2, fun d hd => (hn d hd).sh, fun d hd => (hn d hd).sh, by rw [eqDic_same nd hl hn]; exact h⟩
/-! instances -/
theorem att_o (h1 : lookF ns vs f = some v) (h : RD v m) : attM cn f (.obj cn ns vs) m RD E := ⟨ns, vs, v, .inl rfl, h1, h⟩
theorem att_r {p dx : Addr} (n : Nat) (hm : m[n]? = some (p, .ins cn dx ns vs)) (h1 : lookF ns vs f = some v) (h : RD v m) : attM cn f (.ref p) m RD E := ⟨ns, vs, v, .inr ⟨n, p, dx, rfl, hm⟩, h1, h⟩
theorem stF_i {p dx : Addr} {R : Unit → Led → Prop} (n : Nat) (hm : m[n]? = some (p, .ins cn dx ns vs)) (hl : ns.length < 1000) (h : R () (m.set n (p, .ins cn dx (putN ns f) (putV ns vs f v)))) : stF cn f (.ref p) v m R E := ⟨n, dx, ns, vs, hm, hl, h⟩
theorem chkO_o {R : Unit → Led → Prop} (hn : mt ∉ ns) (h : R () m) : chkO cn mt (.obj cn ns vs) m R E := ⟨ns, vs, .inl rfl, hn, h⟩
theorem ixO_o {sp : SpX} (h : sp [.obj cn ns vs, y] m RD E) : ixO cn sp (.obj cn ns vs) y m RD E := .inl ⟨ns, vs, .inl rfl, h⟩
theorem tryN_i {cb : M (Fl σ τ)} {z : Clz} {R : Fl σ τ → Led → Prop} (h : cb m R fun nm fd m2 => catchN z nm fd m2 R E) : tryN cb z m R E := h
theorem catch_t {cls : List (Str × Bool)} {ch : Option (Str × D) → M (Fl Empty Empty)} {z : Clz} {nm : Str} {fd : Option (Str × D)} {R : Fl σ τ → Led → Prop} (hc : (nm, true) ∈ cls) (h : bnd (ch fd) upF m R NoX) : catchN ((cls, ch) :: z) nm fd m R E := ⟨true, hc, fun _ => h, fun e => nomatch e⟩
theorem catch_f {cls : List (Str × Bool)} {ch : Option (Str × D) → M (Fl Empty Empty)} {z : Clz} {nm : Str} {fd : Option (Str × D)} {R : Fl σ τ → Led → Prop} (hc : (nm, false) ∈ cls) (h : catchN z nm fd m R E) : catchN ((cls, ch) :: z) nm fd m R E := ⟨false, hc, fun e => (nomatch e), fun _ => h⟩
/-! slices and options of ints -/
theorem intO_i {R : Option Int → Led → Prop} (h : R (some i) m) : intO (.int i) m R E := h
theorem sl_T {lo hi : Option Int} (h : RD (.tup (cutD ds lo hi)) m) : slM (.tup ds) lo hi m RD E := h
theorem sl_L {lo hi : Option Int} (h : RD (.lst (cutD ds lo hi)) m) : slM (.lst ds) lo hi m RD E := h
theorem cut_1n : cutD (x :: ds) (some 1) none = ds := by simp [cutD, HT.sIx]
end
end DL


namespace K77
open PySem PySem.Spec PyProof.Rows L2 DL
def topS (i : Nat) : Stmt := PySem.Challenge.pw_leastcomplaint_k77_dividends.main.body.getD i (.Pass ⟨0, 0, 0, 0⟩)
def g_MOST_PLAYERS : D := .int 5
abbrev s_Game___iter__ : Stmt := DL.inClass (topS 16) 3
theorem sc_Game___iter__ : FnScope ["self"] ["self"] (defScope s_Game___iter__) := ⟨rfl, rfl, rfl, by decide +kernel, rfl, by decide +kernel, by decide +kernel⟩
abbrev s_is_integer : Stmt := topS 7
theorem sc_is_integer : FnScope ["value"] ["value"] (defScope s_is_integer) := ⟨rfl, rfl, rfl, by decide +kernel, rfl, by decide +kernel, by decide +kernel⟩
def b_is_integer (v_value : D) : M (Fl Unit Empty) := (bnd (bnd (bnd (bnd (ret v_value) fun d8 => bnd (bnd (ret (.ty "int")) fun d6 => bnd (ret []) fun ds7 => ret (d6 :: ds7)) fun ds9 => ret (d8 :: ds9)) (isiO ["Game"])) (andM (bnd (bnd (bnd (ret v_value) fun d3 => bnd (bnd (ret (.ty "bool")) fun d1 => bnd (ret []) fun ds2 => ret (d1 :: ds2)) fun ds4 => ret (d3 :: ds4)) (isiO ["Game"])) notM))) rtM)
def m_is_integer : SpX := sp1 fun v_value => fnM (b_is_integer v_value)
theorem ok_is_integer {P : Program} {w : World} {K : PySem.W.Frag} {mg : Str → Option Value} {base : Heap} {k : Nat} {f : Addr} {fd : FuncData} {dvs : List V} (F : FnD K "is_integer" "is_integer" s_is_integer dvs f fd) (hk : 0 ≤ k) (m_bool : mg "bool" = none) (m_int : mg "int" = none) (m_isinstance : mg "isinstance" = none) (hob : ∀ cn ∈ (["Game"] : List Str), ObjK K cn) : FnOk P w K mg base (L2.CX P w) (k + 1) f fd ["value"] (liftX K mg m_is_integer) :=
  fn1 F sc_is_integer fun cdv A outer s H E Z hr v_value => by
    have hu := hr.units
    exact (bf_ret (ev_and (ev_blt m_isinstance bt_isinstance (isiO_ok hob) (eva_cons (ev_var .here) (eva_cons (ev_ty m_int bt_int) eva_nil))) (ev_one (ev_not (ev_blt m_isinstance bt_isinstance (isiO_ok hob) (eva_cons (ev_var .here) (eva_cons (ev_ty m_bool bt_bool) eva_nil)))))))
abbrev s_check_players : Stmt := topS 11
theorem sc_check_players : FnScope ["players"] ["players"] (defScope s_check_players) := ⟨rfl, rfl, rfl, by decide +kernel, rfl, by decide +kernel, by decide +kernel⟩
def b_check_players (v_players : D) : M (Fl Unit Empty) := (bnd (bnd (bnd (bnd (bnd (bnd (ret v_players) fun d3 => bnd (ret []) fun ds4 => ret (d3 :: ds4)) m_is_integer) truB) notB) (orB (bnd (bnd (ret (.int 1)) fun x1 => bnd (ret v_players) fun x2 => bnd (cmpB .LtE x1 x2) (chainB .LtE x2 (ret g_MOST_PLAYERS))) notB))) fun b5 => iteM b5 (raiM "BadPlayers" none) (ret (.nx ())))
def m_check_players : SpX := sp1 fun v_players => fnM (b_check_players v_players)
theorem ok_check_players {P : Program} {w : World} {K : PySem.W.Frag} {mg : Str → Option Value} {base : Heap} {k : Nat} {f : Addr} {fd : FuncData} {dvs : List V} (F : FnD K "check_players" "check_players" s_check_players dvs f fd) (hk : 1 ≤ k) (h_is_integer : KnowsX P w K mg base k "is_integer" 1 [] m_is_integer) {C_BadPlayers : Addr} (x_BadPlayers : XK0 P w K mg "BadPlayers" C_BadPlayers) (h_MOST_PLAYERS : GC K mg "MOST_PLAYERS" g_MOST_PLAYERS) : FnOk P w K mg base (L2.CX P w) (k + 1) f fd ["players"] (liftX K mg m_check_players) :=
  fn1 F sc_check_players fun cdv A outer s H E Z hr v_players => by
    have hu := hr.units
    exact (bf_ifX (tv_w (wv_or (tv_not (tv_val (ev_call h_is_integer (hr.mono (by omega)) (eva_cons (ev_var .here) eva_nil)))) (wv_or1 (tv_not (tv_chain hu ev_int (ev_var .here) (ev_glob h_MOST_PLAYERS)))))) (bf_raise0 x_BadPlayers (hr.mono (by omega))) (bf_nil (l := Le.all rfl)))
abbrev s_groups_of : Stmt := topS 12
theorem sc_groups_of : FnScope ["members", "found", "member", "group"] ["members"] (defScope s_groups_of) := ⟨rfl, rfl, rfl, by decide +kernel, rfl, by decide +kernel, by decide +kernel⟩
def b_groups_of (v_members : D) : M (Fl Unit Empty) := (bnd (bnd (bnd (bnd (ret []) mkT) fun d1 => bnd (ret []) fun ds2 => ret (d1 :: ds2)) mkL) fun v_found => (bnd (bnd (ret v_members) seqM) fun ds4 => seqF (forF (fun v_member (s3 : D) => (bnd (bnd (bnd (ret s3) fun d15 => bnd (starL d15) fun ds16 => bnd (bnd (bnd (bnd (ret s3) seqM) fun ds11 => bnd (compM (fun v_group_5 => bnd (bnd (bnd (ret v_group_5) fun d8 => bnd (starL d8) fun ds9 => bnd (bnd (ret v_member) fun d6 => bnd (ret []) fun ds7 => ret (d6 :: ds7)) fun ds10 => ret (ds9 ++ ds10)) mkT) someM) ds11 []) lsM) fun d12 => bnd (starL d12) fun ds13 => bnd (ret []) fun ds14 => ret (ds13 ++ ds14)) fun ds17 => ret (ds16 ++ ds17)) mkL) fun v_found => (ret (.nx v_found)))) ds4 v_found) fun (s3 : D) => (bnd (bnd (bnd (bnd (ret s3) fun d18 => bnd (ret []) fun ds19 => ret (d18 :: ds19)) (sortG false)) fun x20 => bnd (bnd (ret (.int 1)) intO) fun x21 => bnd (ret none) fun x22 => slM x20 x21 x22) rtM)))
def m_groups_of : SpX := sp1 fun v_members => fnM (b_groups_of v_members)
theorem ok_groups_of {P : Program} {w : World} {K : PySem.W.Frag} {mg : Str → Option Value} {base : Heap} {k : Nat} {f : Addr} {fd : FuncData} {dvs : List V} (F : FnD K "groups_of" "groups_of" s_groups_of dvs f fd) (hk : 0 ≤ k) (m_sorted : mg "sorted" = none) : FnOk P w K mg base (L2.CX P w) (k + 1) f fd ["members"] (liftX K mg m_groups_of) :=
  fn1 F sc_groups_of fun cdv A outer s H E Z hr v_members => by
    have hu := hr.units
    exact (bf_set (ev_lst (eva_cons (ev_tup eva_nil) eva_nil)) (fun _ => (.there .here)) (fun v_found => (bf_for (e1 := (fun (s3 : D) => [("members", some v_members), ("found", some s3), ("member", none), ("group", none)])) (iv_seq (ev_var .here)) (.same (.same (.same (.same .nil)))) (fun v_member s3 => bg_name (.there (.there .here)) (bf_set (ev_lst (eva_star (ev_var (.there .here)) (eva_star (ev_lc (.there (.there (.there .here))) (iv_seq (ev_var (.there .here))) (cv0 (fun _ => (.there (.there (.there .here)))) (fun v_group_5 s0 H0 C0 cl0 fp0 => (ev_tup (eva_star (ev_var (.there (.there (.there .here)))) (eva_cons (ev_var (.there (.there .here))) eva_nil)))))) eva_nil))) (fun _ => (.there .here)) (fun v_found => (bf_nil (l := (.same (.same (.drop (.same .nil))))))))) (fun s3 => (bf_ret (ev_slice (ev_blt m_sorted bt_sorted (sortG_ok hu) (eva_cons (ev_var (.there .here)) eva_nil)) (evo_some ev_int) evo_none))))))
abbrev s_groups : Stmt := topS 13
theorem sc_groups : FnScope ["players"] ["players"] (defScope s_groups) := ⟨rfl, rfl, rfl, by decide +kernel, rfl, by decide +kernel, by decide +kernel⟩
def b_groups (v_players : D) : M (Fl Unit Empty) := (bnd (bnd (bnd (ret v_players) fun d1 => bnd (ret []) fun ds2 => ret (d1 :: ds2)) m_check_players) fun _ => (bnd (bnd (bnd (bnd (ret v_players) (lrgG false)) fun d3 => bnd (ret []) fun ds4 => ret (d3 :: ds4)) m_groups_of) rtM))
def m_groups : SpX := sp1 fun v_players => fnM (b_groups v_players)
theorem ok_groups {P : Program} {w : World} {K : PySem.W.Frag} {mg : Str → Option Value} {base : Heap} {k : Nat} {f : Addr} {fd : FuncData} {dvs : List V} (F : FnD K "groups" "groups" s_groups dvs f fd) (hk : 2 ≤ k) (m_list : mg "list" = none) (m_range : mg "range" = none) (h_check_players : KnowsX P w K mg base k "check_players" 1 [] m_check_players) (h_groups_of : KnowsX P w K mg base k "groups_of" 1 [] m_groups_of) : FnOk P w K mg base (L2.CX P w) (k + 1) f fd ["players"] (liftX K mg m_groups) :=
  fn1 F sc_groups fun cdv A outer s H E Z hr v_players => by
    have hu := hr.units
    exact (bf_expr (ev_call h_check_players (hr.mono (by omega)) (eva_cons (ev_var .here) eva_nil)) (bf_ret (ev_call h_groups_of (hr.mono (by omega)) (eva_cons (ev_listRg m_list m_range (ev_var .here)) eva_nil))))
abbrev s_are_integers : Stmt := topS 8
theorem sc_are_integers : FnScope ["value", "item"] ["value"] (defScope s_are_integers) := ⟨rfl, rfl, rfl, by decide +kernel, rfl, by decide +kernel, by decide +kernel⟩
def b_are_integers (v_value : D) : M (Fl Unit Empty) := (bnd (bnd (bnd (bnd (ret v_value) fun d13 => bnd (bnd (bnd (bnd (ret (.ty "list")) fun d9 => bnd (bnd (ret (.ty "tuple")) fun d7 => bnd (ret []) fun ds8 => ret (d7 :: ds8)) fun ds10 => ret (d9 :: ds10)) mkT) fun d11 => bnd (ret []) fun ds12 => ret (d11 :: ds12)) fun ds14 => ret (d13 :: ds14)) (isiO ["Game"])) (andM (bnd (bnd (bnd (bnd (ret v_value) seqM) fun ds4 => bnd (compM (fun v_item_1 => bnd (bnd (bnd (ret v_item_1) fun d2 => bnd (ret []) fun ds3 => ret (d2 :: ds3)) m_is_integer) someM) ds4 []) lsM) fun d5 => bnd (ret []) fun ds6 => ret (d5 :: ds6)) allM))) rtM)
def m_are_integers : SpX := sp1 fun v_value => fnM (b_are_integers v_value)
theorem ok_are_integers {P : Program} {w : World} {K : PySem.W.Frag} {mg : Str → Option Value} {base : Heap} {k : Nat} {f : Addr} {fd : FuncData} {dvs : List V} (F : FnD K "are_integers" "are_integers" s_are_integers dvs f fd) (hk : 1 ≤ k) (m_all : mg "all" = none) (m_isinstance : mg "isinstance" = none) (m_list : mg "list" = none) (m_tuple : mg "tuple" = none) (h_is_integer : KnowsX P w K mg base k "is_integer" 1 [] m_is_integer) (hob : ∀ cn ∈ (["Game"] : List Str), ObjK K cn) : FnOk P w K mg base (L2.CX P w) (k + 1) f fd ["value"] (liftX K mg m_are_integers) :=
  fn1 F sc_are_integers fun cdv A outer s H E Z hr v_value => by
    have hu := hr.units
    exact (bf_ret (ev_and (ev_blt m_isinstance bt_isinstance (isiO_ok hob) (eva_cons (ev_var .here) (eva_cons (ev_tup (eva_cons (ev_ty m_list bt_list) (eva_cons (ev_ty m_tuple bt_tuple) eva_nil))) eva_nil))) (ev_one (ev_blt m_all bt_all (allM_ok rfl) (eva_cons (ev_lc (.there .here) (iv_seq (ev_var .here)) (cv0 (fun _ => (.there .here)) (fun v_item_1 s0 H0 C0 cl0 fp0 => (ev_call h_is_integer (hr.mono (by omega)) (eva_cons (ev_var (.there .here)) eva_nil))))) eva_nil)))))
abbrev s_is_group : Stmt := topS 14
theorem sc_is_group : FnScope ["players", "value", "one", "other"] ["players", "value"] (defScope s_is_group) := ⟨rfl, rfl, rfl, by decide +kernel, rfl, by decide +kernel, by decide +kernel⟩
def b_is_group (v_players : D) (v_value : D) : M (Fl Unit Empty) := (bnd (bnd (bnd (bnd (bnd (bnd (ret v_value) fun d9 => bnd (bnd (ret (.ty "tuple")) fun d7 => bnd (ret []) fun ds8 => ret (d7 :: ds8)) fun ds10 => ret (d9 :: ds10)) (isiO ["Game"])) truB) notB) (orB (bnd (bnd (bnd (bnd (ret v_value) fun d3 => bnd (ret []) fun ds4 => ret (d3 :: ds4)) lenM) fun x5 => bnd (ret (.int 0)) fun x6 => cmpB .Eq x5 x6) (orB (bnd (bnd (bnd (bnd (ret v_value) fun d1 => bnd (ret []) fun ds2 => ret (d1 :: ds2)) m_are_integers) truB) notB))))) fun b11 => iteM b11 (bnd (ret (.bl false)) rtM) (bnd (bnd (bnd (bnd (ret v_value) fun x30 => bnd (ret (.int 0)) fun x31 => ixM x30 x31) fun x32 => bnd (ret (.int 0)) fun x33 => cmpM .GtE x32 x33) (andM (bnd (bnd (bnd (ret v_value) fun x26 => bnd (bnd (ret (.int 1)) fun x25 => unM .USub x25) fun x27 => ixM x26 x27) fun x28 => bnd (ret v_players) fun x29 => cmpM .Lt x28 x29) (andM (bnd (bnd (bnd (bnd (ret v_value) fun x15 => bnd (bnd (ret v_value) fun x12 => bnd (bnd (ret (.int 1)) intO) fun x13 => bnd (ret none) fun x14 => slM x12 x13 x14) fun x16 => zipM x15 x16) fun ds22 => bnd (compM (fun d21 => un2 d21 fun v_one_17 v_other_18 => bnd (bnd (ret v_one_17) fun x19 => bnd (ret v_other_18) fun x20 => cmpM .Lt x19 x20) someM) ds22 []) lsM) fun d23 => bnd (ret []) fun ds24 => ret (d23 :: ds24)) allM))))) rtM))
def m_is_group : SpX := sp2 fun v_players v_value => fnM (b_is_group v_players v_value)
theorem ok_is_group {P : Program} {w : World} {K : PySem.W.Frag} {mg : Str → Option Value} {base : Heap} {k : Nat} {f : Addr} {fd : FuncData} {dvs : List V} (F : FnD K "is_group" "is_group" s_is_group dvs f fd) (hk : 2 ≤ k) (m_all : mg "all" = none) (m_isinstance : mg "isinstance" = none) (m_len : mg "len" = none) (m_tuple : mg "tuple" = none) (m_zip : mg "zip" = none) (h_are_integers : KnowsX P w K mg base k "are_integers" 1 [] m_are_integers) (hob : ∀ cn ∈ (["Game"] : List Str), ObjK K cn) : FnOk P w K mg base (L2.CX P w) (k + 1) f fd ["players", "value"] (liftX K mg m_is_group) :=
  fn2 F sc_is_group fun cdv A outer s H E Z hr v_players v_value => by
    have hu := hr.units
    exact (bf_ifX (tv_w (wv_or (tv_not (tv_val (ev_blt m_isinstance bt_isinstance (isiO_ok hob) (eva_cons (ev_var (.there .here)) (eva_cons (ev_ty m_tuple bt_tuple) eva_nil))))) (wv_or (tv_cmp hu (ev_blt m_len bt_len lenM_ok (eva_cons (ev_var (.there .here)) eva_nil)) ev_int) (wv_or1 (tv_not (tv_val (ev_call h_are_integers (hr.mono (by omega)) (eva_cons (ev_var (.there .here)) eva_nil)))))))) (bf_ret ev_bl) (bf_ret (ev_and (ev_cmp hu (ev_ix hu (ev_var (.there .here)) ev_int) ev_int) (ev_and (ev_cmp hu (ev_ix hu (ev_var (.there .here)) (ev_un ev_int)) (ev_var .here)) (ev_one (ev_blt m_all bt_all (allM_ok rfl) (eva_cons (ev_lcP (.there (.there .here)) (.there (.there (.there .here))) (iv_zip m_zip (ev_var (.there .here)) (ev_slice (ev_var (.there .here)) (evo_some ev_int) evo_none)) (cvp0 (fun _ => (.there (.there .here))) (fun _ _ => (.there (.there (.there .here)))) (fun v_one_17 v_other_18 s0 H0 C0 cl0 fp0 => (ev_cmp hu (ev_var (.there (.there .here))) (ev_var (.there (.there (.there .here)))))))) eva_nil)))))))
abbrev s_has_worths : Stmt := topS 15
theorem sc_has_worths : FnScope ["players", "worths", "group"] ["players", "worths"] (defScope s_has_worths) := ⟨rfl, rfl, rfl, by decide +kernel, rfl, by decide +kernel, by decide +kernel⟩
def b_has_worths (v_players : D) (v_worths : D) : M (Fl Unit Empty) := (bnd (bnd (bnd (bnd (bnd (bnd (ret v_worths) fun d11 => bnd (bnd (ret (.ty "dict")) fun d9 => bnd (ret []) fun ds10 => ret (d9 :: ds10)) fun ds12 => ret (d11 :: ds12)) (isiO ["Game"])) truB) notB) (orB (bnd (bnd (bnd (ret v_worths) fun d1 => bnd (ret []) fun ds2 => ret (d1 :: ds2)) lenM) fun x7 => bnd (bnd (bnd (bnd (bnd (ret v_players) fun d3 => bnd (ret []) fun ds4 => ret (d3 :: ds4)) m_groups) fun d5 => bnd (ret []) fun ds6 => ret (d5 :: ds6)) lenM) fun x8 => cmpB .NotEq x7 x8))) fun b13 => iteM b13 (bnd (ret (.bl false)) rtM) (bnd (bnd (bnd (bnd (bnd (ret v_worths) seqM) fun ds23 => bnd (compM (fun v_group_14 => bnd (bnd (bnd (bnd (ret v_players) fun d21 => bnd (bnd (ret v_group_14) fun d19 => bnd (ret []) fun ds20 => ret (d19 :: ds20)) fun ds22 => ret (d21 :: ds22)) m_is_group) (andM (bnd (bnd (bnd (ret v_worths) fun x15 => bnd (ret v_group_14) fun x16 => ixM x15 x16) fun d17 => bnd (ret []) fun ds18 => ret (d17 :: ds18)) m_is_integer))) someM) ds23 []) lsM) fun d24 => bnd (ret []) fun ds25 => ret (d24 :: ds25)) allM) rtM))
def m_has_worths : SpX := sp2 fun v_players v_worths => fnM (b_has_worths v_players v_worths)
theorem ok_has_worths {P : Program} {w : World} {K : PySem.W.Frag} {mg : Str → Option Value} {base : Heap} {k : Nat} {f : Addr} {fd : FuncData} {dvs : List V} (F : FnD K "has_worths" "has_worths" s_has_worths dvs f fd) (hk : 3 ≤ k) (m_all : mg "all" = none) (m_dict : mg "dict" = none) (m_isinstance : mg "isinstance" = none) (m_len : mg "len" = none) (h_groups : KnowsX P w K mg base k "groups" 1 [] m_groups) (h_is_group : KnowsX P w K mg base k "is_group" 2 [] m_is_group) (h_is_integer : KnowsX P w K mg base k "is_integer" 1 [] m_is_integer) (hob : ∀ cn ∈ (["Game"] : List Str), ObjK K cn) : FnOk P w K mg base (L2.CX P w) (k + 1) f fd ["players", "worths"] (liftX K mg m_has_worths) :=
  fn2 F sc_has_worths fun cdv A outer s H E Z hr v_players v_worths => by
    have hu := hr.units
    exact (bf_ifX (tv_w (wv_or (tv_not (tv_val (ev_blt m_isinstance bt_isinstance (isiO_ok hob) (eva_cons (ev_var (.there .here)) (eva_cons (ev_ty m_dict bt_dict) eva_nil))))) (wv_or1 (tv_cmp hu (ev_blt m_len bt_len lenM_ok (eva_cons (ev_var (.there .here)) eva_nil)) (ev_blt m_len bt_len lenM_ok (eva_cons (ev_call h_groups (hr.mono (by omega)) (eva_cons (ev_var .here) eva_nil)) eva_nil)))))) (bf_ret ev_bl) (bf_ret (ev_blt m_all bt_all (allM_ok rfl) (eva_cons (ev_lc (.there (.there .here)) (iv_seq (ev_var (.there .here))) (cv0 (fun _ => (.there (.there .here))) (fun v_group_14 s0 H0 C0 cl0 fp0 => (ev_and (ev_call h_is_group (hr.mono (by omega)) (eva_cons (ev_var .here) (eva_cons (ev_var (.there (.there .here))) eva_nil))) (ev_one (ev_call h_is_integer (hr.mono (by omega)) (eva_cons (ev_ix hu (ev_var (.there .here)) (ev_var (.there (.there .here)))) eva_nil))))))) eva_nil))))
abbrev s_Game___init__ : Stmt := DL.inClass (topS 16) 0
theorem sc_Game___init__ : FnScope ["self", "players", "worths", "group"] ["self", "players", "worths"] (defScope s_Game___init__) := ⟨rfl, rfl, rfl, by decide +kernel, rfl, by decide +kernel, by decide +kernel⟩
def b_Game___init__ (v_self : D) (v_players : D) (v_worths : D) : M (Fl Unit Empty) := (bnd (bnd (bnd (ret v_players) fun d1 => bnd (ret []) fun ds2 => ret (d1 :: ds2)) m_check_players) fun _ => (bnd (ret v_players) fun x22 => bnd (ret v_self) fun x23 => bnd (stF "Game" "players" x23 x22) fun _ => (bnd (bnd (bnd (bnd (ret v_players) (lrgG false)) fun d3 => bnd (ret []) fun ds4 => ret (d3 :: ds4)) m_groups_of) fun x20 => bnd (ret v_self) fun x21 => bnd (stF "Game" "listed" x21 x20) fun _ => (bnd (bnd (bnd (bnd (bnd (ret v_players) fun d7 => bnd (bnd (ret v_worths) fun d5 => bnd (ret []) fun ds6 => ret (d5 :: ds6)) fun ds8 => ret (d7 :: ds8)) m_has_worths) truB) notB) fun b9 => iteM b9 (raiM "BadWorths" none) (bnd (bnd (bnd (bnd (ret v_self) (attM "Game" "listed")) seqM) fun ds15 => bnd (dcM (fun v_group_10 => bnd (ret v_group_10) fun k13 => bnd (bnd (ret v_worths) fun x11 => bnd (ret v_group_10) fun x12 => ixM x11 x12) fun w14 => pairM k13 w14) ds15 [] []) (dicG false)) fun x18 => bnd (ret v_self) fun x19 => bnd (stF "Game" "worth_of" x19 x18) fun _ => (bnd (bnd (ret v_players) trgM) fun x16 => bnd (ret v_self) fun x17 => bnd (stF "Game" "whole" x17 x16) fun _ => (ret (.nx ()))))))))
def m_Game___init__ : SpX := sp3 fun v_self v_players v_worths => fnM (b_Game___init__ v_self v_players v_worths)
theorem ok_Game___init__ {P : Program} {w : World} {K : PySem.W.Frag} {mg : Str → Option Value} {base : Heap} {k : Nat} {f : Addr} {fd : FuncData} {dvs : List V} (F : FnD K "__init__" "Game.__init__" s_Game___init__ dvs f fd) (hk : 4 ≤ k) (m_list : mg "list" = none) (m_range : mg "range" = none) (m_tuple : mg "tuple" = none) (h_check_players : KnowsX P w K mg base k "check_players" 1 [] m_check_players) (h_groups_of : KnowsX P w K mg base k "groups_of" 1 [] m_groups_of) (h_has_worths : KnowsX P w K mg base k "has_worths" 2 [] m_has_worths) {C_BadWorths : Addr} (x_BadWorths : XK0 P w K mg "BadWorths" C_BadWorths) (at_Game_listed : AttF K "Game" "listed") (at_Game_players : AttF K "Game" "players") (at_Game_whole : AttF K "Game" "whole") (at_Game_worth_of : AttF K "Game" "worth_of") : FnOk P w K mg base (L2.CX P w) (k + 1) f fd ["self", "players", "worths"] (liftX K mg m_Game___init__) :=
  fn3 F sc_Game___init__ fun cdv A outer s H E Z hr v_self v_players v_worths => by
    have hu := hr.units
    exact (bf_expr (ev_call h_check_players (hr.mono (by omega)) (eva_cons (ev_var (.there .here)) eva_nil)) (bf_fld at_Game_players (ev_var (.there .here)) (ev_var .here) (bf_fld at_Game_listed (ev_call h_groups_of (hr.mono (by omega)) (eva_cons (ev_listRg m_list m_range (ev_var (.there .here))) eva_nil)) (ev_var .here) (bf_ifX (tv_not (tv_val (ev_call h_has_worths (hr.mono (by omega)) (eva_cons (ev_var (.there .here)) (eva_cons (ev_var (.there (.there .here))) eva_nil))))) (bf_raise0 x_BadWorths (hr.mono (by omega))) (bf_fld at_Game_worth_of (ev_dc hu (.there (.there (.there .here))) (iv_seq (ev_att at_Game_listed (ev_var .here))) (cvd0 (fun _ => (.there (.there (.there .here)))) (fun v_group_10 s0 H0 C0 cl0 fp0 => (ev_var (.there (.there (.there .here))))) (fun v_group_10 s0 H0 C0 cl0 fp0 => (ev_ix hu (ev_var (.there (.there .here))) (ev_var (.there (.there (.there .here)))))))) (ev_var .here) (bf_fld at_Game_whole (ev_tupRg m_tuple m_range (ev_var (.there .here))) (ev_var .here) (bf_nil (l := Le.all rfl))))))))
abbrev s_law_pool : Stmt := topS 22
theorem sc_law_pool : FnScope ["_law_script"] ["_law_script"] (defScope s_law_pool) := ⟨rfl, rfl, rfl, by decide +kernel, rfl, by decide +kernel, by decide +kernel⟩
def b_law_pool (v_law_script : D) : M (Fl Unit Empty) := (bnd (bnd (bnd (ret (.int 0)) fun d7 => bnd (bnd (ret (.int 0)) fun d5 => bnd (bnd (bnd (bnd (ret v_law_script) fun d1 => bnd (ret []) fun ds2 => ret (d1 :: ds2)) listM) fun d3 => bnd (ret []) fun ds4 => ret (d3 :: ds4)) fun ds6 => ret (d5 :: ds6)) fun ds8 => ret (d7 :: ds8)) newL) rtM)
def m_law_pool : SpX := sp1 fun v_law_script => fnK (b_law_pool v_law_script)
theorem ok_law_pool {P : Program} {w : World} {K : PySem.W.Frag} {mg : Str → Option Value} {base : Heap} {k : Nat} {f : Addr} {fd : FuncData} {dvs : List V} (F : FnD K "_law_pool" "_law_pool" s_law_pool dvs f fd) (hk : 0 ≤ k) (m_list : mg "list" = none) : FnOk P w K mg base (L2.CX P w) (k + 1) f fd ["_law_script"] (liftX K mg m_law_pool) :=
  fk1 F sc_law_pool fun cdv A outer s H E Z hr v_law_script => by
    have hu := hr.units
    exact (bf_ret (ev_lstM (eva_cons ev_int (eva_cons ev_int (eva_cons (ev_blT m_list bt_list (listM_ok rfl) (eva_cons (ev_var .here) eva_nil)) eva_nil)))))
abbrev s_law_take : Stmt := topS 23
theorem sc_law_take : FnScope ["_law_pool_here", "_law_many", "_law_at", "_law_drawn", "_law_mixed", "_law_digit"] ["_law_pool_here", "_law_many"] (defScope s_law_take) := ⟨rfl, rfl, rfl, by decide +kernel, rfl, by decide +kernel, by decide +kernel⟩
def b_law_take (v_law_pool_here : D) (v_law_many : D) : M (Fl Unit Empty) := (seqF (bnd (bnd (bnd (ret v_law_pool_here) fun x1 => bnd (ret (.int 1)) fun x2 => ixM x1 x2) fun x3 => bnd (ret (.int 0)) fun x4 => cmpB .Eq x3 x4) fun b5 => iteM b5 (bnd (bnd (ret v_law_pool_here) fun x7 => bnd (ret (.int 0)) fun x8 => ixM x7 x8) fun v_law_at => (bnd (bnd (ret v_law_at) fun x9 => bnd (ret (.int 1)) fun x10 => binM .Add x9 x10) fun x67 => bnd (ret v_law_pool_here) fun x68 => bnd (ret (.int 0)) fun x69 => bnd (stM x68 x69 x67) fun _ => (bnd (bnd (bnd (bnd (ret v_law_pool_here) fun x11 => bnd (ret (.int 2)) fun x12 => ixM x11 x12) fun x15 => bnd (bnd (bnd (ret (.int 0)) fun d13 => bnd (ret []) fun ds14 => ret (d13 :: ds14)) mkL) fun x16 => binM .Add x15 x16) fun x29 => bnd (bnd (bnd (bnd (ret v_law_at) fun d17 => bnd (ret []) fun ds18 => ret (d17 :: ds18)) intM) fun x27 => bnd (bnd (bnd (ret (.int 1)) fun d25 => bnd (bnd (bnd (bnd (bnd (ret v_law_pool_here) fun x19 => bnd (ret (.int 2)) fun x20 => ixM x19 x20) fun d21 => bnd (ret []) fun ds22 => ret (d21 :: ds22)) lenM) fun d23 => bnd (ret []) fun ds24 => ret (d23 :: ds24)) fun ds26 => ret (d25 :: ds26)) maxM) fun x28 => binM .Mod x27 x28) fun x30 => ixM x29 x30) fun v_law_drawn => (bnd (bnd (bnd (bnd (bnd (bnd (bnd (bnd (ret v_law_drawn) fun d31 => bnd (ret []) fun ds32 => ret (d31 :: ds32)) intM) fun x33 => bnd (ret (.int 2147483647)) fun x34 => binM .Mod x33 x34) fun x37 => bnd (bnd (ret (.int 7919)) fun x35 => bnd (ret v_law_at) fun x36 => binM .Mult x35 x36) fun x38 => binM .Add x37 x38) fun x39 => bnd (ret (.int 13)) fun x40 => binM .Add x39 x40) fun x41 => bnd (ret (.int 5)) fun x42 => binM .Pow x41 x42) fun x43 => bnd (ret (.int 2147483647)) fun x44 => binM .Mod x43 x44) fun v_law_mixed => (bnd (bnd (bnd (bnd (bnd (ret v_law_mixed) fun x47 => bnd (bnd (ret (.int 104729)) fun x45 => bnd (ret v_law_at) fun x46 => binM .Mult x45 x46) fun x48 => binM .Add x47 x48) fun x49 => bnd (ret (.int 29)) fun x50 => binM .Add x49 x50) fun x51 => bnd (ret (.int 3)) fun x52 => binM .Pow x51 x52) fun x53 => bnd (ret (.int 2147483629)) fun x54 => binM .Mod x53 x54) fun v_law_mixed => (bnd (bnd (ret v_law_drawn) fun x57 => bnd (bnd (ret (.int 10)) fun x55 => bnd (ret (.int 18)) fun x56 => binM .Pow x55 x56) fun x58 => cmpB .Lt x57 x58) fun b59 => iteM b59 (bnd (bnd (bnd (ret v_law_mixed) fun x60 => bnd (ret (.int 11)) fun x61 => binM .FloorDiv x60 x61) fun x62 => bnd (ret v_law_many) fun x63 => binM .Mod x62 x63) rtM) (bnd (ret v_law_drawn) fun x64 => bnd (ret v_law_pool_here) fun x65 => bnd (ret (.int 1)) fun x66 => bnd (stM x65 x66 x64) fun _ => (ret (.nx (())))))))))) (ret (.nx (())))) fun (s6 : Unit) => (bnd (bnd (bnd (bnd (bnd (ret v_law_pool_here) fun x70 => bnd (ret (.int 1)) fun x71 => ixM x70 x71) fun d72 => bnd (ret []) fun ds73 => ret (d72 :: ds73)) intM) fun x74 => bnd (ret v_law_many) fun x75 => binM .Mod x74 x75) fun v_law_digit => (bnd (bnd (bnd (ret v_law_pool_here) fun x76 => bnd (ret (.int 1)) fun x77 => ixM x76 x77) fun x78 => bnd (ret v_law_many) fun x79 => binM .FloorDiv x78 x79) fun x80 => bnd (ret v_law_pool_here) fun x81 => bnd (ret (.int 1)) fun x82 => bnd (stM x81 x82 x80) fun _ => (bnd (ret v_law_digit) rtM))))
def m_law_take : SpX := sp2 fun v_law_pool_here v_law_many => fnM (b_law_take v_law_pool_here v_law_many)
theorem ok_law_take {P : Program} {w : World} {K : PySem.W.Frag} {mg : Str → Option Value} {base : Heap} {k : Nat} {f : Addr} {fd : FuncData} {dvs : List V} (F : FnD K "_law_take" "_law_take" s_law_take dvs f fd) (hk : 0 ≤ k) (m_int : mg "int" = none) (m_len : mg "len" = none) (m_max : mg "max" = none) : FnOk P w K mg base (L2.CX P w) (k + 1) f fd ["_law_pool_here", "_law_many"] (liftX K mg m_law_take) :=
  fn2 F sc_law_take fun cdv A outer s H E Z hr v_law_pool_here v_law_many => by
    have hu := hr.units
    exact (bf_if (e1 := (fun (s6 : Unit) => [("_law_pool_here", some v_law_pool_here), ("_law_many", some v_law_many), ("_law_at", none), ("_law_drawn", none), ("_law_mixed", none), ("_law_digit", none)])) (tv_cmp hu (ev_ix hu (ev_var .here) ev_int) ev_int) (bf_set (ev_ix hu (ev_var .here) ev_int) (fun _ => (.there (.there .here))) (fun v_law_at => (bf_sub hu (ev_bin (ev_var (.there (.there .here))) ev_int) (ev_var .here) ev_int (bf_set (ev_ix hu (ev_bin (ev_ix hu (ev_var .here) ev_int) (ev_lst (eva_cons ev_int eva_nil))) (ev_bin (ev_blT m_int bt_int intM_ok (eva_cons (ev_var (.there (.there .here))) eva_nil)) (ev_blt m_max bt_max (maxM_ok rfl) (eva_cons ev_int (eva_cons (ev_blt m_len bt_len lenM_ok (eva_cons (ev_ix hu (ev_var .here) ev_int) eva_nil)) eva_nil))))) (fun _ => (.there (.there (.there .here)))) (fun v_law_drawn => (bf_set (ev_bin (ev_bin (ev_bin (ev_bin (ev_bin (ev_blT m_int bt_int intM_ok (eva_cons (ev_var (.there (.there (.there .here)))) eva_nil)) ev_int) (ev_bin ev_int (ev_var (.there (.there .here))))) ev_int) ev_int) ev_int) (fun _ => (.there (.there (.there (.there .here))))) (fun v_law_mixed => (bf_set (ev_bin (ev_bin (ev_bin (ev_bin (ev_var (.there (.there (.there (.there .here))))) (ev_bin ev_int (ev_var (.there (.there .here))))) ev_int) ev_int) ev_int) (fun _ => (.there (.there (.there (.there .here))))) (fun v_law_mixed => (bf_ifX (tv_cmp hu (ev_var (.there (.there (.there .here)))) (ev_bin ev_int ev_int)) (bf_ret (ev_bin (ev_bin (ev_var (.there (.there (.there (.there .here))))) ev_int) (ev_var (.there .here)))) (bf_sub hu (ev_var (.there (.there (.there .here)))) (ev_var .here) ev_int (bf_nil (l := (.same (.same (.drop (.drop (.drop (.same .nil))))))))))))))))))) (bf_nil (l := (.same (.same (.same (.same (.same (.same .nil)))))))) (fun s6 => (bf_set (ev_bin (ev_blT m_int bt_int intM_ok (eva_cons (ev_ix hu (ev_var .here) ev_int) eva_nil)) (ev_var (.there .here))) (fun _ => (.there (.there (.there (.there (.there .here)))))) (fun v_law_digit => (bf_sub hu (ev_bin (ev_ix hu (ev_var .here) ev_int) (ev_var (.there .here))) (ev_var .here) ev_int (bf_ret (ev_var (.there (.there (.there (.there (.there .here))))))))))))
abbrev s_law_few : Stmt := topS 26
theorem sc_law_few : FnScope ["_law_pool_here"] ["_law_pool_here"] (defScope s_law_few) := ⟨rfl, rfl, rfl, by decide +kernel, rfl, by decide +kernel, by decide +kernel⟩
def b_law_few (v_law_pool_here : D) : M (Fl Unit Empty) := (bnd (bnd (ret (.int 1)) fun x19 => bnd (bnd (bnd (ret v_law_pool_here) fun d17 => bnd (bnd (bnd (bnd (bnd (ret (.int 4)) fun d3 => bnd (bnd (ret (.int 5)) fun d1 => bnd (ret []) fun ds2 => ret (d1 :: ds2)) fun ds4 => ret (d3 :: ds4)) mkL) fun x13 => bnd (bnd (bnd (bnd (bnd (bnd (ret v_law_pool_here) fun d7 => bnd (bnd (ret (.int 6)) fun d5 => bnd (ret []) fun ds6 => ret (d5 :: ds6)) fun ds8 => ret (d7 :: ds8)) m_law_take) fun x9 => bnd (ret (.int 0)) fun x10 => cmpM .Eq x9 x10) fun d11 => bnd (ret []) fun ds12 => ret (d11 :: ds12)) intM) fun x14 => ixM x13 x14) fun d15 => bnd (ret []) fun ds16 => ret (d15 :: ds16)) fun ds18 => ret (d17 :: ds18)) m_law_take) fun x20 => binM .Add x19 x20) rtM)
def m_law_few : SpX := sp1 fun v_law_pool_here => fnM (b_law_few v_law_pool_here)
theorem ok_law_few {P : Program} {w : World} {K : PySem.W.Frag} {mg : Str → Option Value} {base : Heap} {k : Nat} {f : Addr} {fd : FuncData} {dvs : List V} (F : FnD K "_law_few" "_law_few" s_law_few dvs f fd) (hk : 1 ≤ k) (m_int : mg "int" = none) (h_law_take : KnowsX P w K mg base k "_law_take" 2 [] m_law_take) : FnOk P w K mg base (L2.CX P w) (k + 1) f fd ["_law_pool_here"] (liftX K mg m_law_few) :=
  fn1 F sc_law_few fun cdv A outer s H E Z hr v_law_pool_here => by
    have hu := hr.units
    exact (bf_ret (ev_bin ev_int (ev_call h_law_take (hr.mono (by omega)) (eva_cons (ev_var .here) (eva_cons (ev_ix hu (ev_lst (eva_cons ev_int (eva_cons ev_int eva_nil))) (ev_blT m_int bt_int intM_ok (eva_cons (ev_cmp hu (ev_call h_law_take (hr.mono (by omega)) (eva_cons (ev_var .here) (eva_cons ev_int eva_nil))) ev_int) eva_nil))) eva_nil)))))
abbrev s_law_groups : Stmt := topS 25
theorem sc_law_groups : FnScope ["_law_players", "_law_found", "_law_player", "_law_group"] ["_law_players"] (defScope s_law_groups) := ⟨rfl, rfl, rfl, by decide +kernel, rfl, by decide +kernel, by decide +kernel⟩
def b_law_groups (v_law_players : D) : M (Fl Unit Empty) := (bnd (bnd (bnd (bnd (ret []) mkT) fun d1 => bnd (ret []) fun ds2 => ret (d1 :: ds2)) mkL) fun v_law_found => (bnd (bnd (ret v_law_players) rngM) fun ds4 => seqF (forF (fun v_law_player (s3 : D) => (bnd (bnd (ret s3) fun x11 => bnd (bnd (bnd (ret s3) seqM) fun ds10 => bnd (compM (fun v_law_group_5 => bnd (bnd (ret v_law_group_5) fun x8 => bnd (bnd (bnd (ret v_law_player) fun d6 => bnd (ret []) fun ds7 => ret (d6 :: ds7)) mkT) fun x9 => binM .Add x8 x9) someM) ds10 []) lsM) fun x12 => binM .Add x11 x12) fun v_law_found => (ret (.nx v_law_found)))) ds4 v_law_found) fun (s3 : D) => (bnd (bnd (bnd (bnd (ret s3) fun d13 => bnd (ret []) fun ds14 => ret (d13 :: ds14)) (sortG false)) fun x15 => bnd (bnd (ret (.int 1)) intO) fun x16 => bnd (ret none) fun x17 => slM x15 x16 x17) rtM)))
def m_law_groups : SpX := sp1 fun v_law_players => fnM (b_law_groups v_law_players)
theorem ok_law_groups {P : Program} {w : World} {K : PySem.W.Frag} {mg : Str → Option Value} {base : Heap} {k : Nat} {f : Addr} {fd : FuncData} {dvs : List V} (F : FnD K "_law_groups" "_law_groups" s_law_groups dvs f fd) (hk : 0 ≤ k) (m_range : mg "range" = none) (m_sorted : mg "sorted" = none) : FnOk P w K mg base (L2.CX P w) (k + 1) f fd ["_law_players"] (liftX K mg m_law_groups) :=
  fn1 F sc_law_groups fun cdv A outer s H E Z hr v_law_players => by
    have hu := hr.units
    exact (bf_set (ev_lst (eva_cons (ev_tup eva_nil) eva_nil)) (fun _ => (.there .here)) (fun v_law_found => (bf_for (e1 := (fun (s3 : D) => [("_law_players", some v_law_players), ("_law_found", some s3), ("_law_player", none), ("_law_group", none)])) (iv_range1 m_range (ev_var .here)) (.same (.same (.same (.same .nil)))) (fun v_law_player s3 => bg_name (.there (.there .here)) (bf_set (ev_bin (ev_var (.there .here)) (ev_lc (.there (.there (.there .here))) (iv_seq (ev_var (.there .here))) (cv0 (fun _ => (.there (.there (.there .here)))) (fun v_law_group_5 s0 H0 C0 cl0 fp0 => (ev_bin (ev_var (.there (.there (.there .here)))) (ev_tup (eva_cons (ev_var (.there (.there .here))) eva_nil))))))) (fun _ => (.there .here)) (fun v_law_found => (bf_nil (l := (.same (.same (.drop (.same .nil))))))))) (fun s3 => (bf_ret (ev_slice (ev_blt m_sorted bt_sorted (sortG_ok hu) (eva_cons (ev_var (.there .here)) eva_nil)) (evo_some ev_int) evo_none))))))
abbrev s_law_any_worths : Stmt := topS 27
theorem sc_law_any_worths : FnScope ["_law_pool_here", "_law_players", "_law_most", "_law_group"] ["_law_pool_here", "_law_players", "_law_most"] (defScope s_law_any_worths) := ⟨rfl, rfl, rfl, by decide +kernel, rfl, by decide +kernel, by decide +kernel⟩
def b_law_any_worths (v_law_pool_here : D) (v_law_players : D) (v_law_most : D) : M (Fl Unit Empty) := (bnd (bnd (bnd (bnd (bnd (bnd (bnd (ret v_law_players) fun d1 => bnd (ret []) fun ds2 => ret (d1 :: ds2)) m_law_groups) seqM) fun ds18 => bnd (compM (fun v_law_group_3 => bnd (bnd (bnd (ret v_law_group_3) fun d16 => bnd (bnd (bnd (bnd (bnd (ret v_law_pool_here) fun d10 => bnd (bnd (bnd (bnd (ret (.int 2)) fun x4 => bnd (ret v_law_most) fun x5 => binM .Mult x4 x5) fun x6 => bnd (ret (.int 1)) fun x7 => binM .Add x6 x7) fun d8 => bnd (ret []) fun ds9 => ret (d8 :: ds9)) fun ds11 => ret (d10 :: ds11)) m_law_take) fun x12 => bnd (ret v_law_most) fun x13 => binM .Sub x12 x13) fun d14 => bnd (ret []) fun ds15 => ret (d14 :: ds15)) fun ds17 => ret (d16 :: ds17)) mkT) someM) ds18 []) lsM) fun d19 => bnd (ret []) fun ds20 => ret (d19 :: ds20)) (dictG true)) rtM)
def m_law_any_worths : SpX := sp3 fun v_law_pool_here v_law_players v_law_most => fnK (b_law_any_worths v_law_pool_here v_law_players v_law_most)
theorem ok_law_any_worths {P : Program} {w : World} {K : PySem.W.Frag} {mg : Str → Option Value} {base : Heap} {k : Nat} {f : Addr} {fd : FuncData} {dvs : List V} (F : FnD K "_law_any_worths" "_law_any_worths" s_law_any_worths dvs f fd) (hk : 1 ≤ k) (m_dict : mg "dict" = none) (h_law_groups : KnowsX P w K mg base k "_law_groups" 1 [] m_law_groups) (h_law_take : KnowsX P w K mg base k "_law_take" 2 [] m_law_take) : FnOk P w K mg base (L2.CX P w) (k + 1) f fd ["_law_pool_here", "_law_players", "_law_most"] (liftX K mg m_law_any_worths) :=
  fk3 F sc_law_any_worths fun cdv A outer s H E Z hr v_law_pool_here v_law_players v_law_most => by
    have hu := hr.units
    exact (bf_ret (ev_blT m_dict bt_dict (dictG_ok hu rfl) (eva_cons (ev_lc (.there (.there (.there .here))) (iv_seq (ev_call h_law_groups (hr.mono (by omega)) (eva_cons (ev_var (.there .here)) eva_nil))) (cv0 (fun _ => (.there (.there (.there .here)))) (fun v_law_group_3 s0 H0 C0 cl0 fp0 => (ev_tup (eva_cons (ev_var (.there (.there (.there .here)))) (eva_cons (ev_bin (ev_call h_law_take (hr.mono (by omega)) (eva_cons (ev_var .here) (eva_cons (ev_bin (ev_bin ev_int (ev_var (.there (.there .here)))) ev_int) eva_nil))) (ev_var (.there (.there .here)))) eva_nil)))))) eva_nil)))
abbrev s_law_sum : Stmt := topS 29
theorem sc_law_sum : FnScope ["_law_numbers", "_law_group", "_law_player"] ["_law_numbers", "_law_group"] (defScope s_law_sum) := ⟨rfl, rfl, rfl, by decide +kernel, rfl, by decide +kernel, by decide +kernel⟩
def b_law_sum (v_law_numbers : D) (v_law_group : D) : M (Fl Unit Empty) := (bnd (bnd (bnd (bnd (bnd (ret v_law_group) seqM) fun ds4 => bnd (compM (fun v_law_player_1 => bnd (bnd (ret v_law_numbers) fun x2 => bnd (ret v_law_player_1) fun x3 => ixM x2 x3) someM) ds4 []) lsM) fun d5 => bnd (ret []) fun ds6 => ret (d5 :: ds6)) sumM) rtM)
def m_law_sum : SpX := sp2 fun v_law_numbers v_law_group => fnM (b_law_sum v_law_numbers v_law_group)
theorem ok_law_sum {P : Program} {w : World} {K : PySem.W.Frag} {mg : Str → Option Value} {base : Heap} {k : Nat} {f : Addr} {fd : FuncData} {dvs : List V} (F : FnD K "_law_sum" "_law_sum" s_law_sum dvs f fd) (hk : 0 ≤ k) (m_sum : mg "sum" = none) : FnOk P w K mg base (L2.CX P w) (k + 1) f fd ["_law_numbers", "_law_group"] (liftX K mg m_law_sum) :=
  fn2 F sc_law_sum fun cdv A outer s H E Z hr v_law_numbers v_law_group => by
    have hu := hr.units
    exact (bf_ret (ev_blt m_sum bt_sum (sumM_ok rfl) (eva_cons (ev_lc (.there (.there .here)) (iv_seq (ev_var (.there .here))) (cv0 (fun _ => (.there (.there .here))) (fun v_law_player_1 s0 H0 C0 cl0 fp0 => (ev_ix hu (ev_var .here) (ev_var (.there (.there .here))))))) eva_nil)))
abbrev s_law_worths : Stmt := topS 28
theorem sc_law_worths : FnScope ["_law_pool_here", "_law_players", "_law_most", "_law_kind", "_law_found", "_law_steps", "_law_k", "_law_group", "_law_lists", "_law_each", "_law_prices", "_law_whole"] ["_law_pool_here", "_law_players"] (defScope s_law_worths) := ⟨rfl, rfl, rfl, by decide +kernel, rfl, by decide +kernel, by decide +kernel⟩
def b_law_worths (v_law_pool_here : D) (v_law_players : D) : M (Fl Unit Empty) := (bnd (bnd (bnd (bnd (ret (.int 2)) fun d5 => bnd (bnd (ret (.int 9)) fun d3 => bnd (bnd (ret (.int 1000)) fun d1 => bnd (ret []) fun ds2 => ret (d1 :: ds2)) fun ds4 => ret (d3 :: ds4)) fun ds6 => ret (d5 :: ds6)) mkL) fun x11 => bnd (bnd (bnd (ret v_law_pool_here) fun d9 => bnd (bnd (ret (.int 3)) fun d7 => bnd (ret []) fun ds8 => ret (d7 :: ds8)) fun ds10 => ret (d9 :: ds10)) m_law_take) fun x12 => ixM x11 x12) fun v_law_most => (bnd (bnd (bnd (ret v_law_pool_here) fun d15 => bnd (bnd (ret (.int 6)) fun d13 => bnd (ret []) fun ds14 => ret (d13 :: ds14)) fun ds16 => ret (d15 :: ds16)) m_law_take) fun v_law_kind => (bnd (bnd (bnd (ret v_law_pool_here) fun d21 => bnd (bnd (ret v_law_players) fun d19 => bnd (bnd (ret v_law_most) fun d17 => bnd (ret []) fun ds18 => ret (d17 :: ds18)) fun ds20 => ret (d19 :: ds20)) fun ds22 => ret (d21 :: ds22)) m_law_any_worths) fun v_law_found => (seqF (bnd (bnd (ret v_law_kind) fun x23 => bnd (ret (.int 0)) fun x24 => cmpB .Eq x23 x24) fun b25 => iteM b25 (bnd (bnd (bnd (bnd (ret v_law_players) fun x27 => bnd (ret (.int 1)) fun x28 => binM .Add x27 x28) rngM) fun ds34 => bnd (compM (fun v_law_k_29 => bnd (bnd (bnd (ret v_law_pool_here) fun d32 => bnd (bnd (ret (.int 9)) fun d30 => bnd (ret []) fun ds31 => ret (d30 :: ds31)) fun ds33 => ret (d32 :: ds33)) m_law_take) someM) ds34 []) lsM) fun v_law_steps => (bnd (bnd (bnd (thawM v_law_found fun v_law_found_35 => (bnd (bnd (ret v_law_found_35) seqM) fun ds50 => bnd (compM (fun v_law_group_36 => bnd (bnd (bnd (ret v_law_group_36) fun d48 => bnd (bnd (bnd (bnd (bnd (ret v_law_steps) fun x41 => bnd (ret none) fun x42 => bnd (bnd (bnd (bnd (bnd (ret v_law_group_36) fun d37 => bnd (ret []) fun ds38 => ret (d37 :: ds38)) lenM) fun x39 => bnd (ret (.int 1)) fun x40 => binM .Add x39 x40) intO) fun x43 => slM x41 x42 x43) fun d44 => bnd (ret []) fun ds45 => ret (d44 :: ds45)) sumM) fun d46 => bnd (ret []) fun ds47 => ret (d46 :: ds47)) fun ds49 => ret (d48 :: ds49)) mkT) someM) ds50 []) lsM)) fun d51 => bnd (ret []) fun ds52 => ret (d51 :: ds52)) (dictG true)) fun v_law_found => (ret (.nx v_law_found)))) (ret (.nx v_law_found))) fun (s26 : D) => (seqF (bnd (bnd (ret v_law_kind) fun x53 => bnd (ret (.int 1)) fun x54 => cmpB .Eq x53 x54) fun b55 => iteM b55 (bnd (bnd (bnd (ret (.int 3)) rngM) fun ds70 => bnd (compM (fun v_law_each_57 => bnd (bnd (bnd (ret v_law_players) rngM) fun ds69 => bnd (compM (fun v_law_k_58 => bnd (bnd (bnd (bnd (ret v_law_pool_here) fun d65 => bnd (bnd (bnd (bnd (ret (.int 2)) fun x59 => bnd (ret v_law_most) fun x60 => binM .Mult x59 x60) fun x61 => bnd (ret (.int 1)) fun x62 => binM .Add x61 x62) fun d63 => bnd (ret []) fun ds64 => ret (d63 :: ds64)) fun ds66 => ret (d65 :: ds66)) m_law_take) fun x67 => bnd (ret v_law_most) fun x68 => binM .Sub x67 x68) someM) ds69 []) lsM) someM) ds70 []) lsM) fun v_law_lists => (bnd (bnd (bnd (thawM s26 fun v_law_found_71 => (bnd (bnd (ret v_law_found_71) seqM) fun ds85 => bnd (compM (fun v_law_group_72 => bnd (bnd (bnd (ret v_law_group_72) fun d83 => bnd (bnd (bnd (bnd (bnd (bnd (ret v_law_lists) seqM) fun ds78 => bnd (compM (fun v_law_prices_73 => bnd (bnd (bnd (ret v_law_prices_73) fun d76 => bnd (bnd (ret v_law_group_72) fun d74 => bnd (ret []) fun ds75 => ret (d74 :: ds75)) fun ds77 => ret (d76 :: ds77)) m_law_sum) someM) ds78 []) lsM) fun d79 => bnd (ret []) fun ds80 => ret (d79 :: ds80)) minM) fun d81 => bnd (ret []) fun ds82 => ret (d81 :: ds82)) fun ds84 => ret (d83 :: ds84)) mkT) someM) ds85 []) lsM)) fun d86 => bnd (ret []) fun ds87 => ret (d86 :: ds87)) (dictG true)) fun v_law_found => (bnd (bnd (bnd (thawM v_law_found fun v_law_found_88 => (bnd (bnd (ret v_law_found_88) seqM) fun ds105 => bnd (compM (fun v_law_group_89 => bnd (bnd (bnd (ret v_law_group_89) fun d103 => bnd (bnd (bnd (bnd (bnd (ret (.int 1000)) fun x90 => unM .USub x90) fun d99 => bnd (bnd (bnd (bnd (ret (.int 1000)) fun d95 => bnd (bnd (bnd (ret v_law_found_88) fun x91 => bnd (ret v_law_group_89) fun x92 => ixM x91 x92) fun d93 => bnd (ret []) fun ds94 => ret (d93 :: ds94)) fun ds96 => ret (d95 :: ds96)) minM) fun d97 => bnd (ret []) fun ds98 => ret (d97 :: ds98)) fun ds100 => ret (d99 :: ds100)) maxM) fun d101 => bnd (ret []) fun ds102 => ret (d101 :: ds102)) fun ds104 => ret (d103 :: ds104)) mkT) someM) ds105 []) lsM)) fun d106 => bnd (ret []) fun ds107 => ret (d106 :: ds107)) (dictG true)) fun v_law_found => (ret (.nx v_law_found))))) (ret (.nx s26))) fun (s56 : D) => (seqF (bnd (bnd (ret v_law_kind) fun x108 => bnd (ret (.int 2)) fun x109 => cmpB .Eq x108 x109) fun b110 => iteM b110 (bnd (bnd (bnd (thawM s56 fun v_law_found_112 => (bnd (bnd (ret v_law_found_112) seqM) fun ds128 => bnd (compM (fun v_law_group_113 => bnd (bnd (bnd (ret v_law_group_113) fun d126 => bnd (bnd (bnd (bnd (ret v_law_found_112) fun x114 => bnd (ret v_law_group_113) fun x115 => ixM x114 x115) fun x122 => bnd (bnd (bnd (bnd (bnd (bnd (ret v_law_group_113) fun d116 => bnd (ret []) fun ds117 => ret (d116 :: ds117)) lenM) fun x118 => bnd (ret (.int 1)) fun x119 => cmpM .Gt x118 x119) fun d120 => bnd (ret []) fun ds121 => ret (d120 :: ds121)) intM) fun x123 => binM .Mult x122 x123) fun d124 => bnd (ret []) fun ds125 => ret (d124 :: ds125)) fun ds127 => ret (d126 :: ds127)) mkT) someM) ds128 []) lsM)) fun d129 => bnd (ret []) fun ds130 => ret (d129 :: ds130)) (dictG true)) fun v_law_found => (ret (.nx v_law_found))) (ret (.nx s56))) fun (s111 : D) => (bnd (bnd (ret v_law_players) trgM) fun v_law_whole => (seqF (bnd (bnd (bnd (ret v_law_kind) fun x133 => bnd (ret (.int 2)) fun x134 => cmpB .Gt x133 x134) (andB (bnd (ret v_law_players) fun x131 => bnd (ret (.int 1)) fun x132 => cmpB .Gt x131 x132))) fun b135 => iteM b135 (bnd (bnd (bnd (ret (.int 0)) fun d156 => bnd (bnd (bnd (bnd (ret (.int 1000)) fun d152 => bnd (bnd (bnd (bnd (bnd (thawM s111 fun v_law_found_137 => (bnd (bnd (ret v_law_found_137) seqM) fun ds141 => bnd (compM (fun v_law_group_138 => bnd (bnd (ret v_law_found_137) fun x139 => bnd (ret v_law_group_138) fun x140 => ixM x139 x140) someM) ds141 []) lsM)) fun d142 => bnd (ret []) fun ds143 => ret (d142 :: ds143)) maxM) fun x148 => bnd (bnd (bnd (ret v_law_pool_here) fun d146 => bnd (bnd (ret (.int 5)) fun d144 => bnd (ret []) fun ds145 => ret (d144 :: ds145)) fun ds147 => ret (d146 :: ds147)) m_law_take) fun x149 => binM .Add x148 x149) fun d150 => bnd (ret []) fun ds151 => ret (d150 :: ds151)) fun ds153 => ret (d152 :: ds153)) minM) fun d154 => bnd (ret []) fun ds155 => ret (d154 :: ds155)) fun ds157 => ret (d156 :: ds157)) maxM) fun x158 => bnd (ret s111) fun x159 => bnd (ret v_law_whole) fun x160 => bnd (stM x159 x160 x158) fun _ => (ret (.nx (())))) (ret (.nx (())))) fun (s136 : Unit) => (bnd (frzM s111) fun v_law_found => (bnd (ret v_law_found) rtM))))))))))
def m_law_worths : SpX := sp2 fun v_law_pool_here v_law_players => fnM (b_law_worths v_law_pool_here v_law_players)
theorem ok_law_worths {P : Program} {w : World} {K : PySem.W.Frag} {mg : Str → Option Value} {base : Heap} {k : Nat} {f : Addr} {fd : FuncData} {dvs : List V} (F : FnD K "_law_worths" "_law_worths" s_law_worths dvs f fd) (hk : 2 ≤ k) (m_dict : mg "dict" = none) (m_int : mg "int" = none) (m_len : mg "len" = none) (m_max : mg "max" = none) (m_min : mg "min" = none) (m_range : mg "range" = none) (m_sum : mg "sum" = none) (m_tuple : mg "tuple" = none) (h_law_any_worths : KnowsX P w K mg base k "_law_any_worths" 3 [] m_law_any_worths) (h_law_sum : KnowsX P w K mg base k "_law_sum" 2 [] m_law_sum) (h_law_take : KnowsX P w K mg base k "_law_take" 2 [] m_law_take) : FnOk P w K mg base (L2.CX P w) (k + 1) f fd ["_law_pool_here", "_law_players"] (liftX K mg m_law_worths) :=
  fn2 F sc_law_worths fun cdv A outer s H E Z hr v_law_pool_here v_law_players => by
    have hu := hr.units
    exact (bf_set (ev_ix hu (ev_lst (eva_cons ev_int (eva_cons ev_int (eva_cons ev_int eva_nil)))) (ev_call h_law_take (hr.mono (by omega)) (eva_cons (ev_var .here) (eva_cons ev_int eva_nil)))) (fun _ => (.there (.there .here))) (fun v_law_most => (bf_set (ev_call h_law_take (hr.mono (by omega)) (eva_cons (ev_var .here) (eva_cons ev_int eva_nil))) (fun _ => (.there (.there (.there .here)))) (fun v_law_kind => (bf_set (ev_call h_law_any_worths (hr.mono (by omega)) (eva_cons (ev_var .here) (eva_cons (ev_var (.there .here)) (eva_cons (ev_var (.there (.there .here))) eva_nil)))) (fun _ => (.there (.there (.there (.there .here))))) (fun v_law_found => (bf_if (e1 := (fun (s26 : D) => [("_law_pool_here", some v_law_pool_here), ("_law_players", some v_law_players), ("_law_most", some v_law_most), ("_law_kind", some v_law_kind), ("_law_found", some s26), ("_law_steps", none), ("_law_k", none), ("_law_group", none), ("_law_lists", none), ("_law_each", none), ("_law_prices", none), ("_law_whole", none)])) (tv_cmp hu (ev_var (.there (.there (.there .here)))) ev_int) (bf_set (ev_lc (.there (.there (.there (.there (.there (.there .here)))))) (iv_range1 m_range (ev_bin (ev_var (.there .here)) ev_int)) (cv0 (fun _ => (.there (.there (.there (.there (.there (.there .here))))))) (fun v_law_k_29 s0 H0 C0 cl0 fp0 => (ev_call h_law_take (hr.mono (by omega)) (eva_cons (ev_var .here) (eva_cons ev_int eva_nil)))))) (fun _ => (.there (.there (.there (.there (.there .here)))))) (fun v_law_steps => (bf_set (ev_blT m_dict bt_dict (dictG_ok hu rfl) (eva_cons (ev_thaw (.there (.there (.there (.there .here)))) (fun _ => (.there (.there (.there (.there .here))))) (fun v_law_found_35 => (ev_lc (.there (.there (.there (.there (.there (.there (.there .here))))))) (iv_seq (ev_var (.there (.there (.there (.there .here)))))) (cv0 (fun _ => (.there (.there (.there (.there (.there (.there (.there .here)))))))) (fun v_law_group_36 s0 H0 C0 cl0 fp0 => (ev_tup (eva_cons (ev_var (.there (.there (.there (.there (.there (.there (.there .here)))))))) (eva_cons (ev_blt m_sum bt_sum (sumM_ok rfl) (eva_cons (ev_slice (ev_var (.there (.there (.there (.there (.there .here)))))) evo_none (evo_some (ev_bin (ev_blt m_len bt_len lenM_ok (eva_cons (ev_var (.there (.there (.there (.there (.there (.there (.there .here)))))))) eva_nil)) ev_int))) eva_nil)) eva_nil)))))))) eva_nil)) (fun _ => (.there (.there (.there (.there .here))))) (fun v_law_found => (bf_nil (l := (.same (.same (.same (.same (.same (.drop (.same (.same (.same (.same (.same (.same .nil)))))))))))))))))) (bf_nil (l := (.same (.same (.same (.same (.same (.same (.same (.same (.same (.same (.same (.same .nil)))))))))))))) (fun s26 => (bf_if (e1 := (fun (s56 : D) => [("_law_pool_here", some v_law_pool_here), ("_law_players", some v_law_players), ("_law_most", some v_law_most), ("_law_kind", some v_law_kind), ("_law_found", some s56), ("_law_steps", none), ("_law_k", none), ("_law_group", none), ("_law_lists", none), ("_law_each", none), ("_law_prices", none), ("_law_whole", none)])) (tv_cmp hu (ev_var (.there (.there (.there .here)))) ev_int) (bf_set (ev_lc (.there (.there (.there (.there (.there (.there (.there (.there (.there .here))))))))) (iv_range1 m_range ev_int) (cv0 (fun _ => (.there (.there (.there (.there (.there (.there (.there (.there (.there .here)))))))))) (fun v_law_each_57 s0 H0 C0 cl0 fp0 => (ev_lc (.there (.there (.there (.there (.there (.there .here)))))) (iv_range1 m_range (ev_var (.there .here))) (cv0 (fun _ => (.there (.there (.there (.there (.there (.there .here))))))) (fun v_law_k_58 s0 H0 C0 cl0 fp0 => (ev_bin (ev_call h_law_take (hr.mono (by omega)) (eva_cons (ev_var .here) (eva_cons (ev_bin (ev_bin ev_int (ev_var (.there (.there .here)))) ev_int) eva_nil))) (ev_var (.there (.there .here)))))))))) (fun _ => (.there (.there (.there (.there (.there (.there (.there (.there .here))))))))) (fun v_law_lists => (bf_set (ev_blT m_dict bt_dict (dictG_ok hu rfl) (eva_cons (ev_thaw (.there (.there (.there (.there .here)))) (fun _ => (.there (.there (.there (.there .here))))) (fun v_law_found_71 => (ev_lc (.there (.there (.there (.there (.there (.there (.there .here))))))) (iv_seq (ev_var (.there (.there (.there (.there .here)))))) (cv0 (fun _ => (.there (.there (.there (.there (.there (.there (.there .here)))))))) (fun v_law_group_72 s0 H0 C0 cl0 fp0 => (ev_tup (eva_cons (ev_var (.there (.there (.there (.there (.there (.there (.there .here)))))))) (eva_cons (ev_blt m_min bt_min (minM_ok rfl) (eva_cons (ev_lc (.there (.there (.there (.there (.there (.there (.there (.there (.there (.there .here)))))))))) (iv_seq (ev_var (.there (.there (.there (.there (.there (.there (.there (.there .here)))))))))) (cv0 (fun _ => (.there (.there (.there (.there (.there (.there (.there (.there (.there (.there .here))))))))))) (fun v_law_prices_73 s0 H0 C0 cl0 fp0 => (ev_call h_law_sum (hr.mono (by omega)) (eva_cons (ev_var (.there (.there (.there (.there (.there (.there (.there (.there (.there (.there .here))))))))))) (eva_cons (ev_var (.there (.there (.there (.there (.there (.there (.there .here)))))))) eva_nil)))))) eva_nil)) eva_nil)))))))) eva_nil)) (fun _ => (.there (.there (.there (.there .here))))) (fun v_law_found => (bf_set (ev_blT m_dict bt_dict (dictG_ok hu rfl) (eva_cons (ev_thaw (.there (.there (.there (.there .here)))) (fun _ => (.there (.there (.there (.there .here))))) (fun v_law_found_88 => (ev_lc (.there (.there (.there (.there (.there (.there (.there .here))))))) (iv_seq (ev_var (.there (.there (.there (.there .here)))))) (cv0 (fun _ => (.there (.there (.there (.there (.there (.there (.there .here)))))))) (fun v_law_group_89 s0 H0 C0 cl0 fp0 => (ev_tup (eva_cons (ev_var (.there (.there (.there (.there (.there (.there (.there .here)))))))) (eva_cons (ev_blt m_max bt_max (maxM_ok rfl) (eva_cons (ev_un ev_int) (eva_cons (ev_blt m_min bt_min (minM_ok rfl) (eva_cons ev_int (eva_cons (ev_ix hu (ev_var (.there (.there (.there (.there .here))))) (ev_var (.there (.there (.there (.there (.there (.there (.there .here))))))))) eva_nil))) eva_nil))) eva_nil)))))))) eva_nil)) (fun _ => (.there (.there (.there (.there .here))))) (fun v_law_found => (bf_nil (l := (.same (.same (.same (.same (.same (.same (.same (.same (.drop (.same (.same (.same .nil)))))))))))))))))))) (bf_nil (l := (.same (.same (.same (.same (.same (.same (.same (.same (.same (.same (.same (.same .nil)))))))))))))) (fun s56 => (bf_if (e1 := (fun (s111 : D) => [("_law_pool_here", some v_law_pool_here), ("_law_players", some v_law_players), ("_law_most", some v_law_most), ("_law_kind", some v_law_kind), ("_law_found", some s111), ("_law_steps", none), ("_law_k", none), ("_law_group", none), ("_law_lists", none), ("_law_each", none), ("_law_prices", none), ("_law_whole", none)])) (tv_cmp hu (ev_var (.there (.there (.there .here)))) ev_int) (bf_set (ev_blT m_dict bt_dict (dictG_ok hu rfl) (eva_cons (ev_thaw (.there (.there (.there (.there .here)))) (fun _ => (.there (.there (.there (.there .here))))) (fun v_law_found_112 => (ev_lc (.there (.there (.there (.there (.there (.there (.there .here))))))) (iv_seq (ev_var (.there (.there (.there (.there .here)))))) (cv0 (fun _ => (.there (.there (.there (.there (.there (.there (.there .here)))))))) (fun v_law_group_113 s0 H0 C0 cl0 fp0 => (ev_tup (eva_cons (ev_var (.there (.there (.there (.there (.there (.there (.there .here)))))))) (eva_cons (ev_bin (ev_ix hu (ev_var (.there (.there (.there (.there .here))))) (ev_var (.there (.there (.there (.there (.there (.there (.there .here))))))))) (ev_blT m_int bt_int intM_ok (eva_cons (ev_cmp hu (ev_blt m_len bt_len lenM_ok (eva_cons (ev_var (.there (.there (.there (.there (.there (.there (.there .here)))))))) eva_nil)) ev_int) eva_nil))) eva_nil)))))))) eva_nil)) (fun _ => (.there (.there (.there (.there .here))))) (fun v_law_found => (bf_nil (l := (.same (.same (.same (.same (.same (.same (.same (.same (.same (.same (.same (.same .nil)))))))))))))))) (bf_nil (l := (.same (.same (.same (.same (.same (.same (.same (.same (.same (.same (.same (.same .nil)))))))))))))) (fun s111 => (bf_set (ev_tupRg m_tuple m_range (ev_var (.there .here))) (fun _ => (.there (.there (.there (.there (.there (.there (.there (.there (.there (.there (.there .here)))))))))))) (fun v_law_whole => (bf_if (e1 := (fun (s136 : Unit) => [("_law_pool_here", some v_law_pool_here), ("_law_players", some v_law_players), ("_law_most", some v_law_most), ("_law_kind", some v_law_kind), ("_law_found", some s111), ("_law_steps", none), ("_law_k", none), ("_law_group", none), ("_law_lists", none), ("_law_each", none), ("_law_prices", none), ("_law_whole", some v_law_whole)])) (tv_w (wv_and (tv_cmp hu (ev_var (.there (.there (.there .here)))) ev_int) (wv_and1 (tv_cmp hu (ev_var (.there .here)) ev_int)))) (bf_sub hu (ev_blt m_max bt_max (maxM_ok rfl) (eva_cons ev_int (eva_cons (ev_blt m_min bt_min (minM_ok rfl) (eva_cons ev_int (eva_cons (ev_bin (ev_blt m_max bt_max (maxM_ok rfl) (eva_cons (ev_thaw (.there (.there (.there (.there .here)))) (fun _ => (.there (.there (.there (.there .here))))) (fun v_law_found_137 => (ev_lc (.there (.there (.there (.there (.there (.there (.there .here))))))) (iv_seq (ev_var (.there (.there (.there (.there .here)))))) (cv0 (fun _ => (.there (.there (.there (.there (.there (.there (.there .here)))))))) (fun v_law_group_138 s0 H0 C0 cl0 fp0 => (ev_ix hu (ev_var (.there (.there (.there (.there .here))))) (ev_var (.there (.there (.there (.there (.there (.there (.there .here)))))))))))))) eva_nil)) (ev_call h_law_take (hr.mono (by omega)) (eva_cons (ev_var .here) (eva_cons ev_int eva_nil)))) eva_nil))) eva_nil))) (ev_var (.there (.there (.there (.there .here))))) (ev_var (.there (.there (.there (.there (.there (.there (.there (.there (.there (.there (.there .here)))))))))))) (bf_nil (l := (.same (.same (.same (.same (.same (.same (.same (.same (.same (.same (.same (.same .nil))))))))))))))) (bf_nil (l := (.same (.same (.same (.same (.same (.same (.same (.same (.same (.same (.same (.same .nil)))))))))))))) (fun s136 => (bf_frz (.there (.there (.there (.there .here)))) (fun _ => (.there (.there (.there (.there .here))))) (fun v_law_found => (bf_ret (ev_var (.there (.there (.there (.there .here))))))))))))))))))))))))
abbrev s_Game___getitem__ : Stmt := DL.inClass (topS 16) 2
theorem sc_Game___getitem__ : FnScope ["self", "group"] ["self", "group"] (defScope s_Game___getitem__) := ⟨rfl, rfl, rfl, by decide +kernel, rfl, by decide +kernel, by decide +kernel⟩
def b_Game___getitem__ (v_self : D) (v_group : D) : M (Fl Unit Empty) := (bnd (bnd (bnd (bnd (bnd (bnd (ret v_self) (attM "Game" "players")) fun d3 => bnd (bnd (ret v_group) fun d1 => bnd (ret []) fun ds2 => ret (d1 :: ds2)) fun ds4 => ret (d3 :: ds4)) m_is_group) truB) notB) fun b5 => iteM b5 (bnd (ret v_group) fun d6 => raiM "NoGroup" (some ("group", d6))) (bnd (bnd (bnd (ret v_self) (attM "Game" "worth_of")) fun x7 => bnd (ret v_group) fun x8 => ixM x7 x8) rtM))
def m_Game___getitem__ : SpX := sp2 fun v_self v_group => fnM (b_Game___getitem__ v_self v_group)
theorem ok_Game___getitem__ {P : Program} {w : World} {K : PySem.W.Frag} {mg : Str → Option Value} {base : Heap} {k : Nat} {f : Addr} {fd : FuncData} {dvs : List V} (F : FnD K "__getitem__" "Game.__getitem__" s_Game___getitem__ dvs f fd) (hk : 3 ≤ k) (h_is_group : KnowsX P w K mg base k "is_group" 2 [] m_is_group) {C_NoGroup : Addr} (x_NoGroup : XK1 P w K mg "NoGroup" "group" C_NoGroup) (at_Game_players : AttF K "Game" "players") (at_Game_worth_of : AttF K "Game" "worth_of") : FnOk P w K mg base (L2.CX P w) (k + 1) f fd ["self", "group"] (liftX K mg m_Game___getitem__) :=
  fn2 F sc_Game___getitem__ fun cdv A outer s H E Z hr v_self v_group => by
    have hu := hr.units
    exact (bf_ifX (tv_not (tv_val (ev_call h_is_group (hr.mono (by omega)) (eva_cons (ev_att at_Game_players (ev_var .here)) (eva_cons (ev_var (.there .here)) eva_nil))))) (bf_raise1 x_NoGroup (hr.mono (by omega)) (ev_var (.there .here))) (bf_ret (ev_ix hu (ev_att at_Game_worth_of (ev_var .here)) (ev_var (.there .here)))))
abbrev s_lies_in : Stmt := topS 18
theorem sc_lies_in : FnScope ["few", "group", "player"] ["few", "group"] (defScope s_lies_in) := ⟨rfl, rfl, rfl, by decide +kernel, rfl, by decide +kernel, by decide +kernel⟩
def b_lies_in (v_few : D) (v_group : D) : M (Fl Unit Empty) := (bnd (bnd (bnd (bnd (bnd (ret v_few) seqM) fun ds4 => bnd (compM (fun v_player_1 => bnd (bnd (ret v_player_1) fun x2 => bnd (ret v_group) fun x3 => inSM false x2 x3) someM) ds4 []) lsM) fun d5 => bnd (ret []) fun ds6 => ret (d5 :: ds6)) allM) rtM)
def m_lies_in : SpX := sp2 fun v_few v_group => fnM (b_lies_in v_few v_group)
theorem ok_lies_in {P : Program} {w : World} {K : PySem.W.Frag} {mg : Str → Option Value} {base : Heap} {k : Nat} {f : Addr} {fd : FuncData} {dvs : List V} (F : FnD K "lies_in" "lies_in" s_lies_in dvs f fd) (hk : 0 ≤ k) (m_all : mg "all" = none) : FnOk P w K mg base (L2.CX P w) (k + 1) f fd ["few", "group"] (liftX K mg m_lies_in) :=
  fn2 F sc_lies_in fun cdv A outer s H E Z hr v_few v_group => by
    have hu := hr.units
    exact (bf_ret (ev_blt m_all bt_all (allM_ok rfl) (eva_cons (ev_lc (.there (.there .here)) (iv_seq (ev_var .here)) (cv0 (fun _ => (.there (.there .here))) (fun v_player_1 s0 H0 C0 cl0 fp0 => (ev_inS (ev_var (.there (.there .here))) (ev_var (.there .here)))))) eva_nil)))
abbrev s_dividends : Stmt := topS 19
theorem sc_dividends : FnScope ["game", "found", "size", "group", "other", "few"] ["game"] (defScope s_dividends) := ⟨rfl, rfl, rfl, by decide +kernel, rfl, by decide +kernel, by decide +kernel⟩
def b_dividends (v_game : D) : M (Fl Unit Empty) := (bnd newDM fun v_found => (bnd (bnd (ret (.int 1)) fun x4 => bnd (bnd (bnd (ret v_game) (attM "Game" "players")) fun x2 => bnd (ret (.int 1)) fun x3 => binM .Add x2 x3) fun x5 => rngM2 x4 x5) fun ds6 => seqF (forF (fun v_size (s1 : Unit) => (bnd (bnd (bnd (bnd (ret v_game) (iterO "Game" "listed")) fun ds14 => bnd (compM (fun v_other_8 => bnd (bnd (bnd (bnd (ret v_other_8) fun d9 => bnd (ret []) fun ds10 => ret (d9 :: ds10)) lenM) fun x11 => bnd (ret v_size) fun x12 => cmpB .Eq x11 x12) fun k13 => iteM k13 (bnd (ret v_other_8) someM) (ret none)) ds14 []) lsM) seqM) fun ds15 => seqF (forF (fun v_group (s7 : Unit) => (bnd (bnd (bnd (ret v_game) fun x16 => bnd (ret v_group) fun x17 => ixO "Game" m_Game___getitem__ x16 x17) fun x30 => bnd (bnd (bnd (thawM v_found fun v_found_18 => (bnd (bnd (ret v_found_18) seqM) fun ds27 => bnd (compM (fun v_few_19 => bnd (bnd (bnd (bnd (ret v_few_19) fun d24 => bnd (bnd (ret v_group) fun d22 => bnd (ret []) fun ds23 => ret (d22 :: ds23)) fun ds25 => ret (d24 :: ds25)) m_lies_in) truB) fun k26 => iteM k26 (bnd (bnd (ret v_found_18) fun x20 => bnd (ret v_few_19) fun x21 => ixM x20 x21) someM) (ret none)) ds27 []) lsM)) fun d28 => bnd (ret []) fun ds29 => ret (d28 :: ds29)) sumM) fun x31 => binM .Sub x30 x31) fun x32 => bnd (ret v_found) fun x33 => bnd (ret v_group) fun x34 => bnd (stM x33 x34 x32) fun _ => (ret (.nx (()))))) ds15 (())) fun (s7 : Unit) => (ret (.nx (()))))) ds6 (())) fun (s1 : Unit) => (bnd (frzM v_found) fun v_found => (bnd (bnd (bnd (ret v_game) (iterO "Game" "listed")) fun ds40 => bnd (dcM (fun v_group_35 => bnd (ret v_group_35) fun k38 => bnd (bnd (ret v_found) fun x36 => bnd (ret v_group_35) fun x37 => ixM x36 x37) fun w39 => pairM k38 w39) ds40 [] []) (dicG true)) rtM))))
def m_dividends : SpX := sp1 fun v_game => fnK (b_dividends v_game)
theorem ok_dividends {P : Program} {w : World} {K : PySem.W.Frag} {mg : Str → Option Value} {base : Heap} {k : Nat} {f : Addr} {fd : FuncData} {dvs : List V} (F : FnD K "dividends" "dividends" s_dividends dvs f fd) (hk : 5 ≤ k) (m_len : mg "len" = none) (m_range : mg "range" = none) (m_sum : mg "sum" = none) (h_lies_in : KnowsX P w K mg base k "lies_in" 2 [] m_lies_in) (g_Game___getitem__ : KnowsM P w K mg base 4 "Game" "__getitem__" 1 m_Game___getitem__) (fg_Game : FnG K "Game") (it_Game : KnowsI P w K mg base 1 "Game" "listed") (at_Game_players : AttF K "Game" "players") : FnOk P w K mg base (L2.CX P w) (k + 1) f fd ["game"] (liftX K mg m_dividends) :=
  fk1 F sc_dividends fun cdv A outer s H E Z hr v_game => by
    have hu := hr.units
    exact (bf_set ev_newD (fun _ => (.there .here)) (fun v_found => (bf_for (e1 := (fun (s1 : Unit) => [("game", some v_game), ("found", some v_found), ("size", none), ("group", none), ("other", none), ("few", none)])) (iv_range2 m_range ev_int (ev_bin (ev_att at_Game_players (ev_var .here)) ev_int)) (.same (.same (.same (.same (.same (.same .nil)))))) (fun v_size s1 => bg_name (.there (.there .here)) (bf_for (e1 := (fun (s7 : Unit) => [("game", some v_game), ("found", some v_found), ("size", some v_size), ("group", none), ("other", none), ("few", none)])) (iv_seq (ev_lc (.there (.there (.there (.there .here)))) (iv_own it_Game (hr.mono (by omega)) (ev_var .here)) (cv1 (fun _ => (.there (.there (.there (.there .here))))) (fun v_other_8 s0 H0 C0 cl0 fp0 => (tv_cmp hu (ev_blt m_len bt_len lenM_ok (eva_cons (ev_var (.there (.there (.there (.there .here))))) eva_nil)) (ev_var (.there (.there .here))))) (fun v_other_8 s0 H0 C0 cl0 fp0 => (ev_var (.there (.there (.there (.there .here))))))))) (.same (.same (.same (.same (.same (.same .nil)))))) (fun v_group s7 => bg_name (.there (.there (.there .here))) (bf_sub hu (ev_bin (ev_ixO hu g_Game___getitem__ fg_Game (hr.mono (by omega)) (ev_var .here) (ev_var (.there (.there (.there .here))))) (ev_blt m_sum bt_sum (sumM_ok rfl) (eva_cons (ev_thaw (.there .here) (fun _ => (.there .here)) (fun v_found_18 => (ev_lc (.there (.there (.there (.there (.there .here))))) (iv_seq (ev_var (.there .here))) (cv1 (fun _ => (.there (.there (.there (.there (.there .here)))))) (fun v_few_19 s0 H0 C0 cl0 fp0 => (tv_val (ev_call h_lies_in (hr.mono (by omega)) (eva_cons (ev_var (.there (.there (.there (.there (.there .here)))))) (eva_cons (ev_var (.there (.there (.there .here)))) eva_nil))))) (fun v_few_19 s0 H0 C0 cl0 fp0 => (ev_ix hu (ev_var (.there .here)) (ev_var (.there (.there (.there (.there (.there .here)))))))))))) eva_nil))) (ev_var (.there .here)) (ev_var (.there (.there (.there .here)))) (bf_nil (l := (.same (.same (.same (.drop (.same (.same .nil)))))))))) (fun s7 => (bf_nil (l := (.same (.same (.drop (.same (.same (.same .nil))))))))))) (fun s1 => (bf_frz (.there .here) (fun _ => (.there .here)) (fun v_found => (bf_ret (ev_dc hu (.there (.there (.there .here))) (iv_own it_Game (hr.mono (by omega)) (ev_var .here)) (cvd0 (fun _ => (.there (.there (.there .here)))) (fun v_group_35 s0 H0 C0 cl0 fp0 => (ev_var (.there (.there (.there .here))))) (fun v_group_35 s0 H0 C0 cl0 fp0 => (ev_ix hu (ev_var (.there .here)) (ev_var (.there (.there (.there .here)))))))))))))))
abbrev s_Game_worths : Stmt := DL.inClass (topS 16) 6
theorem sc_Game_worths : FnScope ["self"] ["self"] (defScope s_Game_worths) := ⟨rfl, rfl, rfl, by decide +kernel, rfl, by decide +kernel, by decide +kernel⟩
def b_Game_worths (v_self : D) : M (Fl Unit Empty) := (bnd (bnd (bnd (bnd (ret v_self) (attM "Game" "worth_of")) fun d1 => bnd (ret []) fun ds2 => ret (d1 :: ds2)) (dictG false)) rtM)
def m_Game_worths : SpX := sp1 fun v_self => fnM (b_Game_worths v_self)
theorem ok_Game_worths {P : Program} {w : World} {K : PySem.W.Frag} {mg : Str → Option Value} {base : Heap} {k : Nat} {f : Addr} {fd : FuncData} {dvs : List V} (F : FnD K "worths" "Game.worths" s_Game_worths dvs f fd) (hk : 0 ≤ k) (m_dict : mg "dict" = none) (at_Game_worth_of : AttF K "Game" "worth_of") : FnOk P w K mg base (L2.CX P w) (k + 1) f fd ["self"] (liftX K mg m_Game_worths) :=
  fn1 F sc_Game_worths fun cdv A outer s H E Z hr v_self => by
    have hu := hr.units
    exact (bf_ret (ev_blT m_dict bt_dict (dictG_ok hu rfl) (eva_cons (ev_att at_Game_worth_of (ev_var .here)) eva_nil)))
abbrev s_Game___eq__ : Stmt := DL.inClass (topS 16) 5
theorem sc_Game___eq__ : FnScope ["self", "other"] ["self", "other"] (defScope s_Game___eq__) := ⟨rfl, rfl, rfl, by decide +kernel, rfl, by decide +kernel, by decide +kernel⟩
def b_Game___eq__ (v_self : D) (v_other : D) : M (Fl Unit Empty) := (bnd (bnd (bnd (bnd (ret v_other) fun d5 => bnd (bnd (ret (.cls "Game")) fun d3 => bnd (ret []) fun ds4 => ret (d3 :: ds4)) fun ds6 => ret (d5 :: ds6)) (isiO ["Game"])) (andM (bnd (bnd (ret v_self) (attM "Game" "worth_of")) fun x1 => bnd (bnd (ret v_other) (attM "Game" "worth_of")) fun x2 => cmpM .Eq x1 x2))) rtM)
def m_Game___eq__ : SpX := sp2 fun v_self v_other => fnM (b_Game___eq__ v_self v_other)
theorem ok_Game___eq__ {P : Program} {w : World} {K : PySem.W.Frag} {mg : Str → Option Value} {base : Heap} {k : Nat} {f : Addr} {fd : FuncData} {dvs : List V} (F : FnD K "__eq__" "Game.__eq__" s_Game___eq__ dvs f fd) (hk : 0 ≤ k) (m_isinstance : mg "isinstance" = none) (cg_Game : GC K mg "Game" (.cls "Game")) (at_Game_worth_of : AttF K "Game" "worth_of") (hob : ∀ cn ∈ (["Game"] : List Str), ObjK K cn) : FnOk P w K mg base (L2.CX P w) (k + 1) f fd ["self", "other"] (liftX K mg m_Game___eq__) :=
  fn2 F sc_Game___eq__ fun cdv A outer s H E Z hr v_self v_other => by
    have hu := hr.units
    exact (bf_ret (ev_and (ev_blt m_isinstance bt_isinstance (isiO_ok hob) (eva_cons (ev_var (.there .here)) (eva_cons (ev_glob cg_Game) eva_nil))) (ev_one (ev_cmp hu (ev_att at_Game_worth_of (ev_var .here)) (ev_att at_Game_worth_of (ev_var (.there .here)))))))
abbrev s_from_dividends : Stmt := topS 20
theorem sc_from_dividends : FnScope ["players", "dividends", "right", "group", "amount", "worths", "few"] ["players", "dividends"] (defScope s_from_dividends) := ⟨rfl, rfl, rfl, by decide +kernel, rfl, by decide +kernel, by decide +kernel⟩
def b_from_dividends (v_players : D) (v_dividends : D) : M (Fl Unit Empty) := (bnd (bnd (bnd (ret v_players) fun d1 => bnd (ret []) fun ds2 => ret (d1 :: ds2)) m_check_players) fun _ => (bnd (bnd (bnd (bnd (ret v_dividends) fun d13 => bnd (bnd (ret (.ty "dict")) fun d11 => bnd (ret []) fun ds12 => ret (d11 :: ds12)) fun ds14 => ret (d13 :: ds14)) (isiA ["Game"])) (andM (bnd (bnd (bnd (bnd (ret v_dividends) seqA) fun ds8 => bnd (compM (fun v_group_3 => bnd (bnd (bnd (ret v_players) fun d6 => bnd (bnd (ret v_group_3) fun d4 => bnd (ret []) fun ds5 => ret (d4 :: ds5)) fun ds7 => ret (d6 :: ds7)) m_is_group) someM) ds8 []) lsM) fun d9 => bnd (ret []) fun ds10 => ret (d9 :: ds10)) allM))) fun v_right => (bnd (bnd (bnd (bnd (ret v_right) truB) notB) (orB (bnd (bnd (bnd (bnd (bnd (bnd (ret v_dividends) valuesM) fun ds18 => bnd (compM (fun v_amount_15 => bnd (bnd (bnd (ret v_amount_15) fun d16 => bnd (ret []) fun ds17 => ret (d16 :: ds17)) m_is_integer) someM) ds18 []) lsM) fun d19 => bnd (ret []) fun ds20 => ret (d19 :: ds20)) allM) truB) notB))) fun b21 => iteM b21 (raiM "BadWorths" none) (bnd newDM fun v_worths => (bnd (bnd (bnd (bnd (ret v_players) fun d23 => bnd (ret []) fun ds24 => ret (d23 :: ds24)) m_groups) seqM) fun ds25 => seqF (forF (fun v_group (s22 : Unit) => (bnd (bnd (bnd (bnd (bnd (ret v_dividends) itemsM) fun ds34 => bnd (compM (fun d28 => un2 d28 fun v_few_26 v_amount_27 => bnd (bnd (bnd (bnd (ret v_few_26) fun d31 => bnd (bnd (ret v_group) fun d29 => bnd (ret []) fun ds30 => ret (d29 :: ds30)) fun ds32 => ret (d31 :: ds32)) m_lies_in) truB) fun k33 => iteM k33 (bnd (ret v_amount_27) someM) (ret none)) ds34 []) lsM) fun d35 => bnd (ret []) fun ds36 => ret (d35 :: ds36)) sumM) fun x37 => bnd (ret v_worths) fun x38 => bnd (ret v_group) fun x39 => bnd (stM x38 x39 x37) fun _ => (ret (.nx (()))))) ds25 (())) fun (s22 : Unit) => (bnd (frzM v_worths) fun v_worths => (bnd (bnd (bnd (ret v_players) fun d42 => bnd (bnd (ret v_worths) fun d40 => bnd (ret []) fun ds41 => ret (d40 :: ds41)) fun ds43 => ret (d42 :: ds43)) (makeM "Game" m_Game___init__)) rtM)))))))
def m_from_dividends : SpX := sp2 fun v_players v_dividends => fnM (b_from_dividends v_players v_dividends)
theorem ok_from_dividends {P : Program} {w : World} {K : PySem.W.Frag} {mg : Str → Option Value} {base : Heap} {k : Nat} {f : Addr} {fd : FuncData} {dvs : List V} (F : FnD K "from_dividends" "from_dividends" s_from_dividends dvs f fd) (hk : 6 ≤ k) (m_all : mg "all" = none) (m_dict : mg "dict" = none) (m_isinstance : mg "isinstance" = none) (m_sum : mg "sum" = none) (h_check_players : KnowsX P w K mg base k "check_players" 1 [] m_check_players) (h_groups : KnowsX P w K mg base k "groups" 1 [] m_groups) (h_is_group : KnowsX P w K mg base k "is_group" 2 [] m_is_group) (h_is_integer : KnowsX P w K mg base k "is_integer" 1 [] m_is_integer) (h_lies_in : KnowsX P w K mg base k "lies_in" 2 [] m_lies_in) {C_BadWorths : Addr} (x_BadWorths : XK0 P w K mg "BadWorths" C_BadWorths) (C_Game : KnowsC P w K mg base 5 "Game" 2 m_Game___init__) (hob : ∀ cn ∈ (["Game"] : List Str), ObjK K cn) : FnOk P w K mg base (L2.CX P w) (k + 1) f fd ["players", "dividends"] (liftX K mg m_from_dividends) :=
  fn2 F sc_from_dividends fun cdv A outer s H E Z hr v_players v_dividends => by
    have hu := hr.units
    exact (bf_expr (ev_call h_check_players (hr.mono (by omega)) (eva_cons (ev_var .here) eva_nil)) (bf_set (ev_and (ev_blt m_isinstance bt_isinstance (isiA_ok hob) (eva_cons (ev_var (.there .here)) (eva_cons (ev_ty m_dict bt_dict) eva_nil))) (ev_one (ev_blt m_all bt_all (allM_ok rfl) (eva_cons (ev_lc (.there (.there (.there .here))) (iv_seqA (ev_var (.there .here))) (cv0 (fun _ => (.there (.there (.there .here)))) (fun v_group_3 s0 H0 C0 cl0 fp0 => (ev_call h_is_group (hr.mono (by omega)) (eva_cons (ev_var .here) (eva_cons (ev_var (.there (.there (.there .here)))) eva_nil)))))) eva_nil)))) (fun _ => (.there (.there .here))) (fun v_right => (bf_ifX (tv_w (wv_or (tv_not (tv_val (ev_var (.there (.there .here))))) (wv_or1 (tv_not (tv_val (ev_blt m_all bt_all (allM_ok rfl) (eva_cons (ev_lc (.there (.there (.there (.there .here)))) (iv_values (ev_var (.there .here))) (cv0 (fun _ => (.there (.there (.there (.there .here))))) (fun v_amount_15 s0 H0 C0 cl0 fp0 => (ev_call h_is_integer (hr.mono (by omega)) (eva_cons (ev_var (.there (.there (.there (.there .here))))) eva_nil))))) eva_nil))))))) (bf_raise0 x_BadWorths (hr.mono (by omega))) (bf_set ev_newD (fun _ => (.there (.there (.there (.there (.there .here)))))) (fun v_worths => (bf_for (e1 := (fun (s22 : Unit) => [("players", some v_players), ("dividends", some v_dividends), ("right", some v_right), ("group", none), ("amount", none), ("worths", some v_worths), ("few", none)])) (iv_seq (ev_call h_groups (hr.mono (by omega)) (eva_cons (ev_var .here) eva_nil))) (.same (.same (.same (.same (.same (.same (.same .nil))))))) (fun v_group s22 => bg_name (.there (.there (.there .here))) (bf_sub hu (ev_blt m_sum bt_sum (sumM_ok rfl) (eva_cons (ev_lcP (.there (.there (.there (.there (.there (.there .here)))))) (.there (.there (.there (.there .here)))) (iv_items (ev_var (.there .here))) (cvp1 (fun _ => (.there (.there (.there (.there (.there (.there .here))))))) (fun _ _ => (.there (.there (.there (.there .here))))) (fun v_few_26 v_amount_27 s0 H0 C0 cl0 fp0 => (tv_val (ev_call h_lies_in (hr.mono (by omega)) (eva_cons (ev_var (.there (.there (.there (.there (.there (.there .here))))))) (eva_cons (ev_var (.there (.there (.there .here)))) eva_nil))))) (fun v_few_26 v_amount_27 s0 H0 C0 cl0 fp0 => (ev_var (.there (.there (.there (.there .here)))))))) eva_nil)) (ev_var (.there (.there (.there (.there (.there .here)))))) (ev_var (.there (.there (.there .here)))) (bf_nil (l := (.same (.same (.same (.drop (.same (.same (.same .nil))))))))))) (fun s22 => (bf_frz (.there (.there (.there (.there (.there .here))))) (fun _ => (.there (.there (.there (.there (.there .here)))))) (fun v_worths => (bf_ret (ev_make C_Game (hr.mono (by omega)) (eva_cons (ev_var .here) (eva_cons (ev_var (.there (.there (.there (.there (.there .here)))))) eva_nil))))))))))))))
abbrev s_law_told : Stmt := topS 32
theorem sc_law_told : FnScope ["_law_players", "_law_shares"] ["_law_players", "_law_shares"] (defScope s_law_told) := ⟨rfl, rfl, rfl, by decide +kernel, rfl, by decide +kernel, by decide +kernel⟩
def b_law_told (v_law_players : D) (v_law_shares : D) : M (Fl Unit Empty) := (seqF (tryN (bnd (bnd (bnd (bnd (ret v_law_players) fun d3 => bnd (bnd (ret v_law_shares) fun d1 => bnd (ret []) fun ds2 => ret (d1 :: ds2)) fun ds4 => ret (d3 :: ds4)) m_from_dividends) fun u5 => bnd (chkO "Game" "worths" u5) fun _ => m_Game_worths [u5]) rtM) [([("BadPlayers", true), ("BadWorths", false), ("DivisionError", false), ("Mismatch", false), ("NoGroup", false)], fun _ => (bnd (ret (.str "players")) rtM)), ([("BadPlayers", false), ("BadWorths", true), ("DivisionError", false), ("Mismatch", false), ("NoGroup", false)], fun _ => (bnd (ret (.str "worths")) rtM))]) fun (s6 : Empty) => nomatch s6)
def m_law_told : SpX := sp2 fun v_law_players v_law_shares => fnM (b_law_told v_law_players v_law_shares)
theorem ok_law_told {P : Program} {w : World} {K : PySem.W.Frag} {mg : Str → Option Value} {base : Heap} {k : Nat} {f : Addr} {fd : FuncData} {dvs : List V} (F : FnD K "_law_told" "_law_told" s_law_told dvs f fd) (hk : 7 ≤ k) (h_from_dividends : KnowsX P w K mg base k "from_dividends" 2 [] m_from_dividends) (c_BadPlayers : ∃ Cc, mg "BadPlayers" = some (.ref Cc)) (xm_BadPlayers : ∀ q ∈ ([("BadPlayers", true), ("BadWorths", false), ("DivisionError", false), ("Mismatch", false), ("NoGroup", false)] : List (Str × Bool)), XM K mg q.1 "BadPlayers" q.2) (c_BadWorths : ∃ Cc, mg "BadWorths" = some (.ref Cc)) (xm_BadWorths : ∀ q ∈ ([("BadPlayers", false), ("BadWorths", true), ("DivisionError", false), ("Mismatch", false), ("NoGroup", false)] : List (Str × Bool)), XM K mg q.1 "BadWorths" q.2) (mt_Game_worths : KnowsM P w K mg base k "Game" "worths" 0 m_Game_worths) : FnOk P w K mg base (L2.CX P w) (k + 1) f fd ["_law_players", "_law_shares"] (liftX K mg m_law_told) :=
  fn2 F sc_law_told fun cdv A outer s H E Z hr v_law_players v_law_shares => by
    have hu := hr.units
    exact (bf_tryN (e1 := fun (s6 : Empty) => nomatch s6) (HvN.plain c_BadPlayers xm_BadPlayers (fun a oe pn => (bf_ret ev_str)) (HvN.plain c_BadWorths xm_BadWorths (fun a oe pn => (bf_ret ev_str)) HvN.nil)) (fun pn xe q => (by_ret (ev_meth0 mt_Game_worths (hr.mono (by omega)) (ev_call h_from_dividends (hr.mono (by omega)) (eva_cons (ev_var .here) (eva_cons (ev_var (.there .here)) eva_nil)))))) (fun s6 => nomatch s6))
abbrev s_law_inside : Stmt := topS 30
theorem sc_law_inside : FnScope ["_law_few_here", "_law_group", "_law_player"] ["_law_few_here", "_law_group"] (defScope s_law_inside) := ⟨rfl, rfl, rfl, by decide +kernel, rfl, by decide +kernel, by decide +kernel⟩
def b_law_inside (v_law_few_here : D) (v_law_group : D) : M (Fl Unit Empty) := (bnd (bnd (bnd (bnd (ret v_law_few_here) seqM) fun ds5 => bnd (compM (fun v_law_player_1 => bnd (bnd (ret v_law_player_1) fun x2 => bnd (ret v_law_group) fun x3 => inSB true x2 x3) fun k4 => iteM k4 (bnd (ret v_law_player_1) someM) (ret none)) ds5 []) lsM) fun x6 => bnd (bnd (ret []) mkL) fun x7 => cmpM .Eq x6 x7) rtM)
def m_law_inside : SpX := sp2 fun v_law_few_here v_law_group => fnM (b_law_inside v_law_few_here v_law_group)
theorem ok_law_inside {P : Program} {w : World} {K : PySem.W.Frag} {mg : Str → Option Value} {base : Heap} {k : Nat} {f : Addr} {fd : FuncData} {dvs : List V} (F : FnD K "_law_inside" "_law_inside" s_law_inside dvs f fd) (hk : 0 ≤ k)  : FnOk P w K mg base (L2.CX P w) (k + 1) f fd ["_law_few_here", "_law_group"] (liftX K mg m_law_inside) :=
  fn2 F sc_law_inside fun cdv A outer s H E Z hr v_law_few_here v_law_group => by
    have hu := hr.units
    exact (bf_ret (ev_cmp hu (ev_lc (.there (.there .here)) (iv_seq (ev_var .here)) (cv1 (fun _ => (.there (.there .here))) (fun v_law_player_1 s0 H0 C0 cl0 fp0 => (tv_notInS (ev_var (.there (.there .here))) (ev_var (.there .here)))) (fun v_law_player_1 s0 H0 C0 cl0 fp0 => (ev_var (.there (.there .here)))))) (ev_lst eva_nil)))
abbrev s_law_sums : Stmt := topS 31
theorem sc_law_sums : FnScope ["_law_players", "_law_shares", "_law_found", "_law_group", "_law_few_here"] ["_law_players", "_law_shares"] (defScope s_law_sums) := ⟨rfl, rfl, rfl, by decide +kernel, rfl, by decide +kernel, by decide +kernel⟩
def b_law_sums (v_law_players : D) (v_law_shares : D) : M (Fl Unit Empty) := (bnd newDM fun v_law_found => (bnd (bnd (bnd (bnd (ret v_law_players) fun d2 => bnd (ret []) fun ds3 => ret (d2 :: ds3)) m_law_groups) seqM) fun ds4 => seqF (forF (fun v_law_group (s1 : Unit) => (bnd (bnd (bnd (bnd (bnd (ret v_law_shares) seqM) fun ds13 => bnd (compM (fun v_law_few_here_5 => bnd (bnd (bnd (bnd (ret v_law_few_here_5) fun d10 => bnd (bnd (ret v_law_group) fun d8 => bnd (ret []) fun ds9 => ret (d8 :: ds9)) fun ds11 => ret (d10 :: ds11)) m_law_inside) truB) fun k12 => iteM k12 (bnd (bnd (ret v_law_shares) fun x6 => bnd (ret v_law_few_here_5) fun x7 => ixM x6 x7) someM) (ret none)) ds13 []) lsM) fun d14 => bnd (ret []) fun ds15 => ret (d14 :: ds15)) sumM) fun x16 => bnd (ret v_law_found) fun x17 => bnd (ret v_law_group) fun x18 => bnd (stM x17 x18 x16) fun _ => (ret (.nx (()))))) ds4 (())) fun (s1 : Unit) => (bnd (frzM v_law_found) fun v_law_found => (bnd (ret v_law_found) rtM))))
def m_law_sums : SpX := sp2 fun v_law_players v_law_shares => fnM (b_law_sums v_law_players v_law_shares)
theorem ok_law_sums {P : Program} {w : World} {K : PySem.W.Frag} {mg : Str → Option Value} {base : Heap} {k : Nat} {f : Addr} {fd : FuncData} {dvs : List V} (F : FnD K "_law_sums" "_law_sums" s_law_sums dvs f fd) (hk : 1 ≤ k) (m_sum : mg "sum" = none) (h_law_groups : KnowsX P w K mg base k "_law_groups" 1 [] m_law_groups) (h_law_inside : KnowsX P w K mg base k "_law_inside" 2 [] m_law_inside) : FnOk P w K mg base (L2.CX P w) (k + 1) f fd ["_law_players", "_law_shares"] (liftX K mg m_law_sums) :=
  fn2 F sc_law_sums fun cdv A outer s H E Z hr v_law_players v_law_shares => by
    have hu := hr.units
    exact (bf_set ev_newD (fun _ => (.there (.there .here))) (fun v_law_found => (bf_for (e1 := (fun (s1 : Unit) => [("_law_players", some v_law_players), ("_law_shares", some v_law_shares), ("_law_found", some v_law_found), ("_law_group", none), ("_law_few_here", none)])) (iv_seq (ev_call h_law_groups (hr.mono (by omega)) (eva_cons (ev_var .here) eva_nil))) (.same (.same (.same (.same (.same .nil))))) (fun v_law_group s1 => bg_name (.there (.there (.there .here))) (bf_sub hu (ev_blt m_sum bt_sum (sumM_ok rfl) (eva_cons (ev_lc (.there (.there (.there (.there .here)))) (iv_seq (ev_var (.there .here))) (cv1 (fun _ => (.there (.there (.there (.there .here))))) (fun v_law_few_here_5 s0 H0 C0 cl0 fp0 => (tv_val (ev_call h_law_inside (hr.mono (by omega)) (eva_cons (ev_var (.there (.there (.there (.there .here))))) (eva_cons (ev_var (.there (.there (.there .here)))) eva_nil))))) (fun v_law_few_here_5 s0 H0 C0 cl0 fp0 => (ev_ix hu (ev_var (.there .here)) (ev_var (.there (.there (.there (.there .here))))))))) eva_nil)) (ev_var (.there (.there .here))) (ev_var (.there (.there (.there .here)))) (bf_nil (l := (.same (.same (.same (.drop (.same .nil))))))))) (fun s1 => (bf_frz (.there (.there .here)) (fun _ => (.there (.there .here))) (fun v_law_found => (bf_ret (ev_var (.there (.there .here))))))))))
abbrev s_law_wrong : Stmt := topS 33
theorem sc_law_wrong : FnScope ["_law_pool_here", "_law_players", "_law_shares", "_law_wrong_here", "_law_kind"] ["_law_pool_here", "_law_players", "_law_shares"] (defScope s_law_wrong) := ⟨rfl, rfl, rfl, by decide +kernel, rfl, by decide +kernel, by decide +kernel⟩
def b_law_wrong (v_law_pool_here : D) (v_law_players : D) (v_law_shares : D) : M (Fl Unit Empty) := (bnd (bnd (bnd (ret v_law_shares) fun d1 => bnd (ret []) fun ds2 => ret (d1 :: ds2)) (dictG true)) fun v_law_wrong_here => (bnd (bnd (bnd (ret v_law_pool_here) fun d5 => bnd (bnd (ret (.int 4)) fun d3 => bnd (ret []) fun ds4 => ret (d3 :: ds4)) fun ds6 => ret (d5 :: ds6)) m_law_take) fun v_law_kind => (seqF (bnd (bnd (ret v_law_kind) fun x7 => bnd (ret (.int 0)) fun x8 => cmpB .Eq x7 x8) fun b9 => iteM b9 (bnd (ret (.int 1)) fun x44 => bnd (ret v_law_wrong_here) fun x45 => bnd (bnd (bnd (bnd (bnd (ret []) mkT) fun d36 => bnd (bnd (bnd (bnd (ret (.int 1)) fun d13 => bnd (bnd (ret (.int 0)) fun d11 => bnd (ret []) fun ds12 => ret (d11 :: ds12)) fun ds14 => ret (d13 :: ds14)) mkT) fun d34 => bnd (bnd (bnd (bnd (ret v_law_players) fun d15 => bnd (ret []) fun ds16 => ret (d15 :: ds16)) mkT) fun d32 => bnd (bnd (bnd (bnd (ret (.int 0)) fun d19 => bnd (bnd (ret (.int 0)) fun d17 => bnd (ret []) fun ds18 => ret (d17 :: ds18)) fun ds20 => ret (d19 :: ds20)) mkT) fun d30 => bnd (bnd (bnd (bnd (bnd (ret (.int 1)) fun x21 => unM .USub x21) fun d22 => bnd (ret []) fun ds23 => ret (d22 :: ds23)) mkT) fun d28 => bnd (bnd (ret (.int 3)) fun d26 => bnd (bnd (ret (.str "a")) fun d24 => bnd (ret []) fun ds25 => ret (d24 :: ds25)) fun ds27 => ret (d26 :: ds27)) fun ds29 => ret (d28 :: ds29)) fun ds31 => ret (d30 :: ds31)) fun ds33 => ret (d32 :: ds33)) fun ds35 => ret (d34 :: ds35)) fun ds37 => ret (d36 :: ds37)) mkL) fun x42 => bnd (bnd (bnd (ret v_law_pool_here) fun d40 => bnd (bnd (ret (.int 7)) fun d38 => bnd (ret []) fun ds39 => ret (d38 :: ds39)) fun ds41 => ret (d40 :: ds41)) m_law_take) fun x43 => ixM x42 x43) fun x46 => bnd (stA x45 x46 x44) fun _ => (ret (.nx (())))) (ret (.nx (())))) fun (s10 : Unit) => (seqF (bnd (bnd (ret v_law_kind) fun x47 => bnd (ret (.int 1)) fun x48 => cmpB .Eq x47 x48) fun b49 => iteM b49 (bnd (bnd (bnd (bnd (ret (.bl true)) fun d61 => bnd (bnd (ret .non) fun d59 => bnd (bnd (ret (.str "1")) fun d57 => bnd (bnd (bnd (bnd (ret (.int 1)) fun d53 => bnd (bnd (ret (.int 1)) fun d51 => bnd (ret []) fun ds52 => ret (d51 :: ds52)) fun ds54 => ret (d53 :: ds54)) mkT) fun d55 => bnd (ret []) fun ds56 => ret (d55 :: ds56)) fun ds58 => ret (d57 :: ds58)) fun ds60 => ret (d59 :: ds60)) fun ds62 => ret (d61 :: ds62)) mkL) fun x67 => bnd (bnd (bnd (ret v_law_pool_here) fun d65 => bnd (bnd (ret (.int 4)) fun d63 => bnd (ret []) fun ds64 => ret (d63 :: ds64)) fun ds66 => ret (d65 :: ds66)) m_law_take) fun x68 => ixM x67 x68) fun x71 => bnd (ret v_law_wrong_here) fun x72 => bnd (bnd (bnd (ret (.int 0)) fun d69 => bnd (ret []) fun ds70 => ret (d69 :: ds70)) mkT) fun x73 => bnd (stA x72 x73 x71) fun _ => (ret (.nx (())))) (ret (.nx (())))) fun (s50 : Unit) => (bnd (bnd (ret v_law_kind) fun x74 => bnd (ret (.int 2)) fun x75 => cmpB .Eq x74 x75) fun b76 => iteM b76 (bnd (bnd (bnd (bnd (ret .non) fun d91 => bnd (bnd (bnd (ret []) mkL) fun d89 => bnd (bnd (ret (.int 5)) fun d87 => bnd (bnd (bnd (bnd (bnd (bnd (bnd (bnd (ret (.int 0)) fun d77 => bnd (ret []) fun ds78 => ret (d77 :: ds78)) mkT) fun d81 => bnd (bnd (ret (.int 1)) fun d79 => bnd (ret []) fun ds80 => ret (d79 :: ds80)) fun ds82 => ret (d81 :: ds82)) mkT) fun d83 => bnd (ret []) fun ds84 => ret (d83 :: ds84)) mkL) fun d85 => bnd (ret []) fun ds86 => ret (d85 :: ds86)) fun ds88 => ret (d87 :: ds88)) fun ds90 => ret (d89 :: ds90)) fun ds92 => ret (d91 :: ds92)) mkL) fun x97 => bnd (bnd (bnd (ret v_law_pool_here) fun d95 => bnd (bnd (ret (.int 4)) fun d93 => bnd (ret []) fun ds94 => ret (d93 :: ds94)) fun ds96 => ret (d95 :: ds96)) m_law_take) fun x98 => ixM x97 x98) rtM) (seqF (bnd (bnd (ret v_law_kind) fun x99 => bnd (ret (.int 3)) fun x100 => cmpB .Eq x99 x100) fun b101 => iteM b101 (bnd (bnd (ret v_law_wrong_here) fun u109 => bnd (chkD u109) fun _ => bnd (bnd (bnd (bnd (ret (.int 1)) fun d103 => bnd (ret []) fun ds104 => ret (d103 :: ds104)) mkT) fun d107 => bnd (bnd (ret .non) fun d105 => bnd (ret []) fun ds106 => ret (d105 :: ds106)) fun ds108 => ret (d107 :: ds108)) (popDM2 u109)) fun _ => (bnd (ret (.int 4)) fun x112 => bnd (ret v_law_wrong_here) fun x113 => bnd (bnd (bnd (ret (.bl true)) fun d110 => bnd (ret []) fun ds111 => ret (d110 :: ds111)) mkT) fun x114 => bnd (stA x113 x114 x112) fun _ => (ret (.nx (()))))) (ret (.nx (())))) fun (s102 : Unit) => (bnd (frzU v_law_wrong_here) fun v_law_wrong_here => (bnd (ret v_law_wrong_here) rtM))))))))
def m_law_wrong : SpX := sp3 fun v_law_pool_here v_law_players v_law_shares => fnM (b_law_wrong v_law_pool_here v_law_players v_law_shares)
theorem ok_law_wrong {P : Program} {w : World} {K : PySem.W.Frag} {mg : Str → Option Value} {base : Heap} {k : Nat} {f : Addr} {fd : FuncData} {dvs : List V} (F : FnD K "_law_wrong" "_law_wrong" s_law_wrong dvs f fd) (hk : 1 ≤ k) (m_dict : mg "dict" = none) (h_law_take : KnowsX P w K mg base k "_law_take" 2 [] m_law_take) : FnOk P w K mg base (L2.CX P w) (k + 1) f fd ["_law_pool_here", "_law_players", "_law_shares"] (liftX K mg m_law_wrong) :=
  fn3 F sc_law_wrong fun cdv A outer s H E Z hr v_law_pool_here v_law_players v_law_shares => by
    have hu := hr.units
    exact (bf_set (ev_blT m_dict bt_dict (dictG_ok hu rfl) (eva_cons (ev_var (.there (.there .here))) eva_nil)) (fun _ => (.there (.there (.there .here)))) (fun v_law_wrong_here => (bf_set (ev_call h_law_take (hr.mono (by omega)) (eva_cons (ev_var .here) (eva_cons ev_int eva_nil))) (fun _ => (.there (.there (.there (.there .here))))) (fun v_law_kind => (bf_if (e1 := (fun (s10 : Unit) => [("_law_pool_here", some v_law_pool_here), ("_law_players", some v_law_players), ("_law_shares", some v_law_shares), ("_law_wrong_here", some v_law_wrong_here), ("_law_kind", some v_law_kind)])) (tv_cmp hu (ev_var (.there (.there (.there (.there .here))))) ev_int) (bf_subA hu ev_int (ev_var (.there (.there (.there .here)))) (ev_ix hu (ev_lst (eva_cons (ev_tup eva_nil) (eva_cons (ev_tup (eva_cons ev_int (eva_cons ev_int eva_nil))) (eva_cons (ev_tup (eva_cons (ev_var (.there .here)) eva_nil)) (eva_cons (ev_tup (eva_cons ev_int (eva_cons ev_int eva_nil))) (eva_cons (ev_tup (eva_cons (ev_un ev_int) eva_nil)) (eva_cons ev_int (eva_cons ev_str eva_nil)))))))) (ev_call h_law_take (hr.mono (by omega)) (eva_cons (ev_var .here) (eva_cons ev_int eva_nil)))) (bf_nil (l := (.same (.same (.same (.same (.same .nil)))))))) (bf_nil (l := (.same (.same (.same (.same (.same .nil))))))) (fun s10 => (bf_if (e1 := (fun (s50 : Unit) => [("_law_pool_here", some v_law_pool_here), ("_law_players", some v_law_players), ("_law_shares", some v_law_shares), ("_law_wrong_here", some v_law_wrong_here), ("_law_kind", some v_law_kind)])) (tv_cmp hu (ev_var (.there (.there (.there (.there .here))))) ev_int) (bf_subA hu (ev_ix hu (ev_lst (eva_cons ev_bl (eva_cons ev_non (eva_cons ev_str (eva_cons (ev_tup (eva_cons ev_int (eva_cons ev_int eva_nil))) eva_nil))))) (ev_call h_law_take (hr.mono (by omega)) (eva_cons (ev_var .here) (eva_cons ev_int eva_nil)))) (ev_var (.there (.there (.there .here)))) (ev_tup (eva_cons ev_int eva_nil)) (bf_nil (l := (.same (.same (.same (.same (.same .nil)))))))) (bf_nil (l := (.same (.same (.same (.same (.same .nil))))))) (fun s50 => (bf_ifX (tv_cmp hu (ev_var (.there (.there (.there (.there .here))))) ev_int) (bf_ret (ev_ix hu (ev_lst (eva_cons ev_non (eva_cons (ev_lst eva_nil) (eva_cons ev_int (eva_cons (ev_lst (eva_cons (ev_tup (eva_cons (ev_tup (eva_cons ev_int eva_nil)) (eva_cons ev_int eva_nil))) eva_nil)) eva_nil))))) (ev_call h_law_take (hr.mono (by omega)) (eva_cons (ev_var .here) (eva_cons ev_int eva_nil))))) (bf_if (e1 := (fun (s102 : Unit) => [("_law_pool_here", some v_law_pool_here), ("_law_players", some v_law_players), ("_law_shares", some v_law_shares), ("_law_wrong_here", some v_law_wrong_here), ("_law_kind", some v_law_kind)])) (tv_cmp hu (ev_var (.there (.there (.there (.there .here))))) ev_int) (bf_expr (ev_popD2 hu (ev_var (.there (.there (.there .here)))) (eva_cons (ev_tup (eva_cons ev_int eva_nil)) (eva_cons ev_non eva_nil))) (bf_subA hu ev_int (ev_var (.there (.there (.there .here)))) (ev_tup (eva_cons ev_bl eva_nil)) (bf_nil (l := (.same (.same (.same (.same (.same .nil))))))))) (bf_nil (l := (.same (.same (.same (.same (.same .nil))))))) (fun s102 => (bf_frzA (.there (.there (.there .here))) (fun _ => (.there (.there (.there .here)))) (fun v_law_wrong_here => (bf_ret (ev_var (.there (.there (.there .here))))))))))))))))))
abbrev s_law_is_number : Stmt := topS 24
theorem sc_law_is_number : FnScope ["_law_thing"] ["_law_thing"] (defScope s_law_is_number) := ⟨rfl, rfl, rfl, by decide +kernel, rfl, by decide +kernel, by decide +kernel⟩
def b_law_is_number (v_law_thing : D) : M (Fl Unit Empty) := (bnd (bnd (bnd (bnd (ret v_law_thing) fun d8 => bnd (bnd (ret (.ty "int")) fun d6 => bnd (ret []) fun ds7 => ret (d6 :: ds7)) fun ds9 => ret (d8 :: ds9)) (isiO ["Game"])) (andM (bnd (bnd (bnd (ret v_law_thing) fun d3 => bnd (bnd (ret (.ty "bool")) fun d1 => bnd (ret []) fun ds2 => ret (d1 :: ds2)) fun ds4 => ret (d3 :: ds4)) (isiO ["Game"])) notM))) rtM)
def m_law_is_number : SpX := sp1 fun v_law_thing => fnM (b_law_is_number v_law_thing)
theorem ok_law_is_number {P : Program} {w : World} {K : PySem.W.Frag} {mg : Str → Option Value} {base : Heap} {k : Nat} {f : Addr} {fd : FuncData} {dvs : List V} (F : FnD K "_law_is_number" "_law_is_number" s_law_is_number dvs f fd) (hk : 0 ≤ k) (m_bool : mg "bool" = none) (m_int : mg "int" = none) (m_isinstance : mg "isinstance" = none) (hob : ∀ cn ∈ (["Game"] : List Str), ObjK K cn) : FnOk P w K mg base (L2.CX P w) (k + 1) f fd ["_law_thing"] (liftX K mg m_law_is_number) :=
  fn1 F sc_law_is_number fun cdv A outer s H E Z hr v_law_thing => by
    have hu := hr.units
    exact (bf_ret (ev_and (ev_blt m_isinstance bt_isinstance (isiO_ok hob) (eva_cons (ev_var .here) (eva_cons (ev_ty m_int bt_int) eva_nil))) (ev_one (ev_not (ev_blt m_isinstance bt_isinstance (isiO_ok hob) (eva_cons (ev_var .here) (eva_cons (ev_ty m_bool bt_bool) eva_nil)))))))
abbrev s_law : Stmt := topS 34
theorem sc_law : FnScope ["_law_script", "_law_pool_here", "_law_players", "_law_worths_here", "_law_game", "_law_says", "_law_group", "_law_saved", "_law_listed", "_law_shares", "_law_k", "_law_given", "_law_back", "_law_bad"] ["_law_script"] (defScope s_law) := ⟨rfl, rfl, rfl, by decide +kernel, rfl, by decide +kernel, by decide +kernel⟩
def b_law (v_law_script : D) : M (Fl Unit Empty) := (bnd (bnd (bnd (ret v_law_script) fun d1 => bnd (ret []) fun ds2 => ret (d1 :: ds2)) m_law_pool) fun v_law_pool_here => (bnd (bnd (bnd (ret v_law_pool_here) fun d3 => bnd (ret []) fun ds4 => ret (d3 :: ds4)) m_law_few) fun v_law_players => (bnd (bnd (bnd (ret v_law_pool_here) fun d7 => bnd (bnd (ret v_law_players) fun d5 => bnd (ret []) fun ds6 => ret (d5 :: ds6)) fun ds8 => ret (d7 :: ds8)) m_law_worths) fun v_law_worths_here => (bnd (bnd (bnd (ret v_law_players) fun d11 => bnd (bnd (ret v_law_worths_here) fun d9 => bnd (ret []) fun ds10 => ret (d9 :: ds10)) fun ds12 => ret (d11 :: ds12)) (makeM "Game" m_Game___init__)) fun v_law_game => (bnd (bnd (bnd (ret v_law_game) fun d13 => bnd (ret []) fun ds14 => ret (d13 :: ds14)) m_dividends) fun v_law_says => (bnd (bnd (thawT v_law_says fun v_law_says_24 => (bnd (bnd (bnd (bnd (bnd (ret v_law_says_24) fun d25 => bnd (ret []) fun ds26 => ret (d25 :: ds26)) listM) fun d27 => bnd (ret []) fun ds28 => ret (d27 :: ds28)) (sortG false)) fun x31 => bnd (bnd (bnd (ret v_law_players) fun d29 => bnd (ret []) fun ds30 => ret (d29 :: ds30)) m_law_groups) fun x32 => cmpB .NotEq x31 x32)) (orB (bnd (bnd (bnd (bnd (thawM v_law_says fun v_law_says_15 => (bnd (bnd (ret v_law_says_15) seqM) fun ds21 => bnd (compM (fun v_law_group_16 => bnd (bnd (bnd (bnd (ret v_law_says_15) fun x17 => bnd (ret v_law_group_16) fun x18 => ixM x17 x18) fun d19 => bnd (ret []) fun ds20 => ret (d19 :: ds20)) m_law_is_number) someM) ds21 []) lsM)) fun d22 => bnd (ret []) fun ds23 => ret (d22 :: ds23)) allM) truB) notB))) fun b33 => iteM b33 (bnd (ret (.bl false)) rtM) (bnd (bnd (thawT v_law_says fun v_law_says_41 => (bnd (bnd (bnd (ret v_law_players) fun d44 => bnd (bnd (ret v_law_says_41) fun d42 => bnd (ret []) fun ds43 => ret (d42 :: ds43)) fun ds45 => ret (d44 :: ds45)) m_law_sums) fun x46 => bnd (ret v_law_worths_here) fun x47 => cmpB .NotEq x46 x47)) (orB (bnd (thawT v_law_says fun v_law_says_34 => (bnd (bnd (bnd (ret v_law_players) fun d37 => bnd (bnd (ret v_law_says_34) fun d35 => bnd (ret []) fun ds36 => ret (d35 :: ds36)) fun ds38 => ret (d37 :: ds38)) m_from_dividends) fun x39 => bnd (ret v_law_game) fun x40 => cmpOB "Game" m_Game___eq__ x39 x40)) notB))) fun b48 => iteM b48 (bnd (ret (.bl false)) rtM) (bnd (bnd (bnd (ret v_law_says) fun d49 => bnd (ret []) fun ds50 => ret (d49 :: ds50)) (dictG false)) fun v_law_saved => (bnd (bnd (ret v_law_says) clrM) fun _ => (bnd (bnd (bnd (bnd (ret v_law_game) fun d51 => bnd (ret []) fun ds52 => ret (d51 :: ds52)) m_dividends) fun x53 => bnd (ret v_law_saved) fun x54 => cmpB .NotEq x53 x54) fun b55 => iteM b55 (bnd (ret (.bl false)) rtM) (bnd (bnd (bnd (ret v_law_players) fun d56 => bnd (ret []) fun ds57 => ret (d56 :: ds57)) m_law_groups) fun v_law_listed => (bnd newDM fun v_law_shares => (bnd (bnd (bnd (bnd (ret v_law_pool_here) fun d61 => bnd (bnd (ret (.int 9)) fun d59 => bnd (ret []) fun ds60 => ret (d59 :: ds60)) fun ds62 => ret (d61 :: ds62)) m_law_take) rngM) fun ds63 => seqF (forF (fun v_law_k (s58 : Unit) => (bnd (bnd (bnd (bnd (ret v_law_pool_here) fun d66 => bnd (bnd (ret (.int 201)) fun d64 => bnd (ret []) fun ds65 => ret (d64 :: ds65)) fun ds67 => ret (d66 :: ds67)) m_law_take) fun x68 => bnd (ret (.int 100)) fun x69 => binM .Sub x68 x69) fun x78 => bnd (ret v_law_shares) fun x79 => bnd (bnd (ret v_law_listed) fun x76 => bnd (bnd (bnd (ret v_law_pool_here) fun d74 => bnd (bnd (bnd (bnd (ret v_law_listed) fun d70 => bnd (ret []) fun ds71 => ret (d70 :: ds71)) lenM) fun d72 => bnd (ret []) fun ds73 => ret (d72 :: ds73)) fun ds75 => ret (d74 :: ds75)) m_law_take) fun x77 => ixM x76 x77) fun x80 => bnd (stM x79 x80 x78) fun _ => (ret (.nx (()))))) ds63 (())) fun (s58 : Unit) => (bnd (frzM v_law_shares) fun v_law_shares => (bnd (bnd (bnd (ret v_law_shares) fun d81 => bnd (ret []) fun ds82 => ret (d81 :: ds82)) (dictG false)) fun v_law_given => (bnd (bnd (bnd (bnd (bnd (ret v_law_players) fun d87 => bnd (bnd (ret v_law_given) fun d85 => bnd (ret []) fun ds86 => ret (d85 :: ds86)) fun ds88 => ret (d87 :: ds88)) m_law_told) fun x93 => bnd (bnd (bnd (ret v_law_players) fun d91 => bnd (bnd (ret v_law_shares) fun d89 => bnd (ret []) fun ds90 => ret (d89 :: ds90)) fun ds92 => ret (d91 :: ds92)) m_law_sums) fun x94 => cmpB .NotEq x93 x94) (orB (bnd (ret v_law_given) fun x83 => bnd (ret v_law_shares) fun x84 => cmpB .NotEq x83 x84))) fun b95 => iteM b95 (bnd (ret (.bl false)) rtM) (bnd (bnd (bnd (bnd (bnd (ret v_law_players) fun d102 => bnd (bnd (bnd (bnd (ret v_law_players) fun d98 => bnd (bnd (ret v_law_shares) fun d96 => bnd (ret []) fun ds97 => ret (d96 :: ds97)) fun ds99 => ret (d98 :: ds99)) m_law_sums) fun d100 => bnd (ret []) fun ds101 => ret (d100 :: ds101)) fun ds103 => ret (d102 :: ds103)) (makeM "Game" m_Game___init__)) fun d104 => bnd (ret []) fun ds105 => ret (d104 :: ds105)) m_dividends) fun v_law_back => (bnd (bnd (bnd (bnd (ret v_law_listed) seqM) fun ds117 => bnd (compM (fun v_law_group_106 => bnd (bnd (bnd (ret v_law_back) fun x107 => bnd (ret v_law_group_106) fun x108 => ixM x107 x108) fun x114 => bnd (bnd (ret v_law_shares) fun u113 => bnd (chkD u113) fun _ => bnd (bnd (ret v_law_group_106) fun d111 => bnd (bnd (ret (.int 0)) fun d109 => bnd (ret []) fun ds110 => ret (d109 :: ds110)) fun ds112 => ret (d111 :: ds112)) (getM u113)) fun x115 => cmpB .NotEq x114 x115) fun k116 => iteM k116 (bnd (ret v_law_group_106) someM) (ret none)) ds117 []) lsM) fun x118 => bnd (bnd (ret []) mkL) fun x119 => cmpB .NotEq x118 x119) fun b120 => iteM b120 (bnd (ret (.bl false)) rtM) (bnd (bnd (bnd (bnd (ret v_law_players) fun d129 => bnd (bnd (bnd (bnd (ret v_law_pool_here) fun d125 => bnd (bnd (ret v_law_players) fun d123 => bnd (bnd (ret v_law_shares) fun d121 => bnd (ret []) fun ds122 => ret (d121 :: ds122)) fun ds124 => ret (d123 :: ds124)) fun ds126 => ret (d125 :: ds126)) m_law_wrong) fun d127 => bnd (ret []) fun ds128 => ret (d127 :: ds128)) fun ds130 => ret (d129 :: ds130)) m_law_told) fun x131 => bnd (ret (.str "worths")) fun x132 => cmpB .NotEq x131 x132) fun b133 => iteM b133 (bnd (ret (.bl false)) rtM) (bnd (bnd (bnd (bnd (ret (.int 0)) fun d146 => bnd (bnd (ret (.int 6)) fun d144 => bnd (bnd (bnd (ret (.int 1)) fun x135 => unM .USub x135) fun d142 => bnd (bnd (ret (.bl true)) fun d140 => bnd (bnd (ret .non) fun d138 => bnd (bnd (ret (.str "2")) fun d136 => bnd (ret []) fun ds137 => ret (d136 :: ds137)) fun ds139 => ret (d138 :: ds139)) fun ds141 => ret (d140 :: ds141)) fun ds143 => ret (d142 :: ds143)) fun ds145 => ret (d144 :: ds145)) fun ds147 => ret (d146 :: ds147)) mkL) seqM) fun ds148 => seqF (forF (fun v_law_bad (s134 : Unit) => (bnd (bnd (bnd (bnd (ret v_law_bad) fun d151 => bnd (bnd (ret .non) fun d149 => bnd (ret []) fun ds150 => ret (d149 :: ds150)) fun ds152 => ret (d151 :: ds152)) m_law_told) fun x153 => bnd (ret (.str "players")) fun x154 => cmpB .NotEq x153 x154) fun b155 => iteM b155 (bnd (ret (.bl false)) rtM) (ret (.nx (()))))) ds148 (())) fun (s134 : Unit) => (bnd (bnd (bnd (ret v_law_game) fun u156 => bnd (chkO "Game" "worths" u156) fun _ => m_Game_worths [u156]) fun x157 => bnd (ret v_law_worths_here) fun x158 => cmpM .Eq x157 x158) rtM)))))))))))))))))))))
def m_law : SpX := sp1 fun v_law_script => fnM (b_law v_law_script)
theorem ok_law {P : Program} {w : World} {K : PySem.W.Frag} {mg : Str → Option Value} {base : Heap} {k : Nat} {f : Addr} {fd : FuncData} (F : Fun K "law" "law" s_law f fd) (hk : 8 ≤ k) (m_all : mg "all" = none) (m_dict : mg "dict" = none) (m_len : mg "len" = none) (m_list : mg "list" = none) (m_range : mg "range" = none) (m_sorted : mg "sorted" = none) (h_law_few : KnowsX P w K mg base k "_law_few" 1 [] m_law_few) (h_law_groups : KnowsX P w K mg base k "_law_groups" 1 [] m_law_groups) (h_law_is_number : KnowsX P w K mg base k "_law_is_number" 1 [] m_law_is_number) (h_law_pool : KnowsX P w K mg base k "_law_pool" 1 [] m_law_pool) (h_law_sums : KnowsX P w K mg base k "_law_sums" 2 [] m_law_sums) (h_law_take : KnowsX P w K mg base k "_law_take" 2 [] m_law_take) (h_law_told : KnowsX P w K mg base k "_law_told" 2 [] m_law_told) (h_law_worths : KnowsX P w K mg base k "_law_worths" 2 [] m_law_worths) (h_law_wrong : KnowsX P w K mg base k "_law_wrong" 3 [] m_law_wrong) (h_dividends : KnowsX P w K mg base k "dividends" 1 [] m_dividends) (h_from_dividends : KnowsX P w K mg base k "from_dividends" 2 [] m_from_dividends) (C_Game : KnowsC P w K mg base 5 "Game" 2 m_Game___init__) (mt_Game_worths : KnowsM P w K mg base k "Game" "worths" 0 m_Game_worths) (op_Game___eq__ : KnowsM P w K mg base 1 "Game" "__eq__" 1 m_Game___eq__) : FnOk P w K mg base CX0 (k + 1) f fd ["_law_script"] (lift K fun ds m R => m_law ds m R NoX) :=
  fn_law F sc_law fun cdv A outer s H hr v_law_script => by
    have hu := hr.units
    exact (bf_set (ev_call h_law_pool (hr.mono (by omega)) (eva_cons (ev_var .here) eva_nil)) (fun _ => (.there .here)) (fun v_law_pool_here => (bf_set (ev_call h_law_few (hr.mono (by omega)) (eva_cons (ev_var (.there .here)) eva_nil)) (fun _ => (.there (.there .here))) (fun v_law_players => (bf_set (ev_call h_law_worths (hr.mono (by omega)) (eva_cons (ev_var (.there .here)) (eva_cons (ev_var (.there (.there .here))) eva_nil))) (fun _ => (.there (.there (.there .here)))) (fun v_law_worths_here => (bf_set (ev_make C_Game (hr.mono (by omega)) (eva_cons (ev_var (.there (.there .here))) (eva_cons (ev_var (.there (.there (.there .here)))) eva_nil))) (fun _ => (.there (.there (.there (.there .here))))) (fun v_law_game => (bf_set (ev_call h_dividends (hr.mono (by omega)) (eva_cons (ev_var (.there (.there (.there (.there .here))))) eva_nil)) (fun _ => (.there (.there (.there (.there (.there .here)))))) (fun v_law_says => (bf_ifX (tv_w (wv_or (tv_thaw (.there (.there (.there (.there (.there .here))))) (fun _ => (.there (.there (.there (.there (.there .here)))))) (fun v_law_says_24 => (tv_cmp hu (ev_blt m_sorted bt_sorted (sortG_ok hu) (eva_cons (ev_blT m_list bt_list (listM_ok rfl) (eva_cons (ev_var (.there (.there (.there (.there (.there .here)))))) eva_nil)) eva_nil)) (ev_call h_law_groups (hr.mono (by omega)) (eva_cons (ev_var (.there (.there .here))) eva_nil))))) (wv_or1 (tv_not (tv_val (ev_blt m_all bt_all (allM_ok rfl) (eva_cons (ev_thaw (.there (.there (.there (.there (.there .here))))) (fun _ => (.there (.there (.there (.there (.there .here)))))) (fun v_law_says_15 => (ev_lc (.there (.there (.there (.there (.there (.there .here)))))) (iv_seq (ev_var (.there (.there (.there (.there (.there .here))))))) (cv0 (fun _ => (.there (.there (.there (.there (.there (.there .here))))))) (fun v_law_group_16 s0 H0 C0 cl0 fp0 => (ev_call h_law_is_number (hr.mono (by omega)) (eva_cons (ev_ix hu (ev_var (.there (.there (.there (.there (.there .here)))))) (ev_var (.there (.there (.there (.there (.there (.there .here)))))))) eva_nil))))))) eva_nil))))))) (bf_ret ev_bl) (bf_ifX (tv_w (wv_or (tv_thaw (.there (.there (.there (.there (.there .here))))) (fun _ => (.there (.there (.there (.there (.there .here)))))) (fun v_law_says_41 => (tv_cmp hu (ev_call h_law_sums (hr.mono (by omega)) (eva_cons (ev_var (.there (.there .here))) (eva_cons (ev_var (.there (.there (.there (.there (.there .here)))))) eva_nil))) (ev_var (.there (.there (.there .here))))))) (wv_or1 (tv_not (tv_thaw (.there (.there (.there (.there (.there .here))))) (fun _ => (.there (.there (.there (.there (.there .here)))))) (fun v_law_says_34 => (tv_cmpO hu op_Game___eq__ (hr.mono (by omega)) (ev_call h_from_dividends (hr.mono (by omega)) (eva_cons (ev_var (.there (.there .here))) (eva_cons (ev_var (.there (.there (.there (.there (.there .here)))))) eva_nil))) (ev_var (.there (.there (.there (.there .here)))))))))))) (bf_ret ev_bl) (bf_set (ev_blT m_dict bt_dict (dictG_ok hu rfl) (eva_cons (ev_var (.there (.there (.there (.there (.there .here)))))) eva_nil)) (fun _ => (.there (.there (.there (.there (.there (.there (.there .here)))))))) (fun v_law_saved => (bf_expr (ev_clear (ev_var (.there (.there (.there (.there (.there .here))))))) (bf_ifX (tv_cmp hu (ev_call h_dividends (hr.mono (by omega)) (eva_cons (ev_var (.there (.there (.there (.there .here))))) eva_nil)) (ev_var (.there (.there (.there (.there (.there (.there (.there .here))))))))) (bf_ret ev_bl) (bf_set (ev_call h_law_groups (hr.mono (by omega)) (eva_cons (ev_var (.there (.there .here))) eva_nil)) (fun _ => (.there (.there (.there (.there (.there (.there (.there (.there .here))))))))) (fun v_law_listed => (bf_set ev_newD (fun _ => (.there (.there (.there (.there (.there (.there (.there (.there (.there .here)))))))))) (fun v_law_shares => (bf_for (e1 := (fun (s58 : Unit) => [("_law_script", some v_law_script), ("_law_pool_here", some v_law_pool_here), ("_law_players", some v_law_players), ("_law_worths_here", some v_law_worths_here), ("_law_game", some v_law_game), ("_law_says", some v_law_says), ("_law_group", none), ("_law_saved", some v_law_saved), ("_law_listed", some v_law_listed), ("_law_shares", some v_law_shares), ("_law_k", none), ("_law_given", none), ("_law_back", none), ("_law_bad", none)])) (iv_range1 m_range (ev_call h_law_take (hr.mono (by omega)) (eva_cons (ev_var (.there .here)) (eva_cons ev_int eva_nil)))) (.same (.same (.same (.same (.same (.same (.same (.same (.same (.same (.same (.same (.same (.same .nil)))))))))))))) (fun v_law_k s58 => bg_name (.there (.there (.there (.there (.there (.there (.there (.there (.there (.there .here)))))))))) (bf_sub hu (ev_bin (ev_call h_law_take (hr.mono (by omega)) (eva_cons (ev_var (.there .here)) (eva_cons ev_int eva_nil))) ev_int) (ev_var (.there (.there (.there (.there (.there (.there (.there (.there (.there .here)))))))))) (ev_ix hu (ev_var (.there (.there (.there (.there (.there (.there (.there (.there .here))))))))) (ev_call h_law_take (hr.mono (by omega)) (eva_cons (ev_var (.there .here)) (eva_cons (ev_blt m_len bt_len lenM_ok (eva_cons (ev_var (.there (.there (.there (.there (.there (.there (.there (.there .here))))))))) eva_nil)) eva_nil)))) (bf_nil (l := (.same (.same (.same (.same (.same (.same (.same (.same (.same (.same (.drop (.same (.same (.same .nil)))))))))))))))))) (fun s58 => (bf_frz (.there (.there (.there (.there (.there (.there (.there (.there (.there .here))))))))) (fun _ => (.there (.there (.there (.there (.there (.there (.there (.there (.there .here)))))))))) (fun v_law_shares => (bf_set (ev_blT m_dict bt_dict (dictG_ok hu rfl) (eva_cons (ev_var (.there (.there (.there (.there (.there (.there (.there (.there (.there .here)))))))))) eva_nil)) (fun _ => (.there (.there (.there (.there (.there (.there (.there (.there (.there (.there (.there .here)))))))))))) (fun v_law_given => (bf_ifX (tv_w (wv_or (tv_cmp hu (ev_call h_law_told (hr.mono (by omega)) (eva_cons (ev_var (.there (.there .here))) (eva_cons (ev_var (.there (.there (.there (.there (.there (.there (.there (.there (.there (.there (.there .here)))))))))))) eva_nil))) (ev_call h_law_sums (hr.mono (by omega)) (eva_cons (ev_var (.there (.there .here))) (eva_cons (ev_var (.there (.there (.there (.there (.there (.there (.there (.there (.there .here)))))))))) eva_nil)))) (wv_or1 (tv_cmp hu (ev_var (.there (.there (.there (.there (.there (.there (.there (.there (.there (.there (.there .here)))))))))))) (ev_var (.there (.there (.there (.there (.there (.there (.there (.there (.there .here)))))))))))))) (bf_ret ev_bl) (bf_set (ev_call h_dividends (hr.mono (by omega)) (eva_cons (ev_make C_Game (hr.mono (by omega)) (eva_cons (ev_var (.there (.there .here))) (eva_cons (ev_call h_law_sums (hr.mono (by omega)) (eva_cons (ev_var (.there (.there .here))) (eva_cons (ev_var (.there (.there (.there (.there (.there (.there (.there (.there (.there .here)))))))))) eva_nil))) eva_nil))) eva_nil)) (fun _ => (.there (.there (.there (.there (.there (.there (.there (.there (.there (.there (.there (.there .here))))))))))))) (fun v_law_back => (bf_ifX (tv_cmp hu (ev_lc (.there (.there (.there (.there (.there (.there .here)))))) (iv_seq (ev_var (.there (.there (.there (.there (.there (.there (.there (.there .here)))))))))) (cv1 (fun _ => (.there (.there (.there (.there (.there (.there .here))))))) (fun v_law_group_106 s0 H0 C0 cl0 fp0 => (tv_cmp hu (ev_ix hu (ev_var (.there (.there (.there (.there (.there (.there (.there (.there (.there (.there (.there (.there .here))))))))))))) (ev_var (.there (.there (.there (.there (.there (.there .here)))))))) (ev_get hu (ev_var (.there (.there (.there (.there (.there (.there (.there (.there (.there .here)))))))))) (eva_cons (ev_var (.there (.there (.there (.there (.there (.there .here))))))) (eva_cons ev_int eva_nil))))) (fun v_law_group_106 s0 H0 C0 cl0 fp0 => (ev_var (.there (.there (.there (.there (.there (.there .here)))))))))) (ev_lst eva_nil)) (bf_ret ev_bl) (bf_ifX (tv_cmp hu (ev_call h_law_told (hr.mono (by omega)) (eva_cons (ev_var (.there (.there .here))) (eva_cons (ev_call h_law_wrong (hr.mono (by omega)) (eva_cons (ev_var (.there .here)) (eva_cons (ev_var (.there (.there .here))) (eva_cons (ev_var (.there (.there (.there (.there (.there (.there (.there (.there (.there .here)))))))))) eva_nil)))) eva_nil))) ev_str) (bf_ret ev_bl) (bf_for (e1 := (fun (s134 : Unit) => [("_law_script", some v_law_script), ("_law_pool_here", some v_law_pool_here), ("_law_players", some v_law_players), ("_law_worths_here", some v_law_worths_here), ("_law_game", some v_law_game), ("_law_says", some v_law_says), ("_law_group", none), ("_law_saved", some v_law_saved), ("_law_listed", some v_law_listed), ("_law_shares", some v_law_shares), ("_law_k", none), ("_law_given", some v_law_given), ("_law_back", some v_law_back), ("_law_bad", none)])) (iv_seq (ev_lst (eva_cons ev_int (eva_cons ev_int (eva_cons (ev_un ev_int) (eva_cons ev_bl (eva_cons ev_non (eva_cons ev_str eva_nil)))))))) (.same (.same (.same (.same (.same (.same (.same (.same (.same (.same (.same (.same (.same (.same .nil)))))))))))))) (fun v_law_bad s134 => bg_name (.there (.there (.there (.there (.there (.there (.there (.there (.there (.there (.there (.there (.there .here))))))))))))) (bf_ifX (tv_cmp hu (ev_call h_law_told (hr.mono (by omega)) (eva_cons (ev_var (.there (.there (.there (.there (.there (.there (.there (.there (.there (.there (.there (.there (.there .here)))))))))))))) (eva_cons ev_non eva_nil))) ev_str) (bf_ret ev_bl) (bf_nil (l := (.same (.same (.same (.same (.same (.same (.same (.same (.same (.same (.same (.same (.same (.drop .nil)))))))))))))))))) (fun s134 => (bf_ret (ev_cmp hu (ev_meth0 mt_Game_worths (hr.mono (by omega)) (ev_var (.there (.there (.there (.there .here)))))) (ev_var (.there (.there (.there .here)))))))))))))))))))))))))))))))))))))))
end K77


namespace K77
open PySem PySem.Spec PyProof.Rows L2 DL
local macro_rules | `(tactic| tm_at "bd") => `(tactic| (first
  | (with_reducible assumption)
  | ((with_reducible show Bd _ (_ * _)); refine Bd.mulR (by tm_at "bd") (by tm_at "bd"))
  | ((with_reducible show Bd _ (_ + _)); refine Bd.addR (by tm_at "bd") (by tm_at "bd"))
  | ((with_reducible show Bd _ (_ - _)); refine Bd.subR (by tm_at "bd") (by tm_at "bd"))
  | ((with_reducible show Bd _ (-_)); refine Bd.negR (by tm_at "bd"))
  | (exact Bd.lit _)
  | (exact Bd.one)
  | assumption))
local macro_rules | `(tactic| tm_at "mul") => `(tactic| (exact Bd.mul (by tm_at "bd") (by tm_at "bd") (by decide)))
local macro_rules | `(tactic| tm_at "st") => `(tactic| ((with_reducible refine ixL_i atI_2 ?_)))
local macro_rules | `(tactic| tm_at "st") => `(tactic| ((with_reducible refine ixL_i atI_1 ?_)))
local macro_rules | `(tactic| tm_at "st") => `(tactic| ((with_reducible refine ixL_i atI_0 ?_)))
local macro_rules | `(tactic| tm_at "st") => `(tactic| ((with_reducible refine ixT_i atI_2 ?_)))
local macro_rules | `(tactic| tm_at "st") => `(tactic| ((with_reducible refine ixT_i atI_1 ?_)))
local macro_rules | `(tactic| tm_at "st") => `(tactic| ((with_reducible refine ixT_i atI_0 ?_)))
local macro_rules | `(tactic| tm_at "st") => `(tactic| (with_reducible refine mkL_i (by first | decide | (simp <;> omega)) ?_))
local macro_rules | `(tactic| tm_at "st") => `(tactic| (with_reducible refine mkT_i (by first | decide | (simp <;> omega)) ?_))
local macro_rules | `(tactic| tm_at "st") => `(tactic| ((with_reducible show binM Operator.Pow (D.int _) (D.int _) _ _ _); refine pow_i (by refine ⟨?_, ?_, ?_⟩ <;> omega) ?_))
local macro_rules | `(tactic| tm_at "st") => `(tactic| ((with_reducible show binM Operator.Mod (D.int _) (D.int _) _ _ _); refine mod_i (by first | assumption | omega | decide) ?_))
local macro_rules | `(tactic| tm_at "st") => `(tactic| ((with_reducible show binM Operator.Mult (D.int _) (D.int _) _ _ _); refine mul_i (by tm_at "mul") ?_))
local macro_rules | `(tactic| tm_at "st") => `(tactic| (with_reducible refine chkO_o (by decide) ?_))
local macro_rules | `(tactic| tm_at "st") => `(tactic| (with_reducible refine att_o rfl ?_))
local macro_rules | `(tactic| tm_at "st") => `(tactic| (with_reducible refine isiO_o2 (by decide) (by decide) (by decide) ?_))
local macro_rules | `(tactic| tm_at "st") => `(tactic| (with_reducible refine isiO_o (by decide) (by decide) ?_))
local macro_rules | `(tactic| tm_at "st") => `(tactic| (with_reducible refine isiO_d2 (r := false) (by decide) (by decide) (by decide) ?_))
local macro_rules | `(tactic| tm_at "st") => `(tactic| (with_reducible refine isiO_dr (r := false) (by decide) (by decide) ?_))
local macro_rules | `(tactic| tm_at "st") => `(tactic| (with_reducible refine isiO_dr (r := true) (by decide) (by decide) ?_))
local macro_rules | `(tactic| tm_at "st") => `(tactic| (with_reducible refine isiO_2 (r := false) rfl (by decide) (by decide) (by decide) ?_))
local macro_rules | `(tactic| tm_at "st") => `(tactic| (with_reducible refine isiO_2 (r := true) rfl (by decide) (by decide) (by decide) ?_))
local macro_rules | `(tactic| tm_at "st") => `(tactic| (with_reducible refine isiO_pr (r := false) rfl (by decide) (by decide) ?_))
local macro_rules | `(tactic| tm_at "st") => `(tactic| (with_reducible refine isiO_pr (r := true) rfl (by decide) (by decide) ?_))
local macro_rules | `(tactic| tm_at "st") => `(tactic| (with_reducible refine ixO_o ?_))
local macro_rules | `(tactic| tm_at "st") => `(tactic| (with_reducible refine tryN_i ?_))
local macro_rules | `(tactic| tm_at "st") => `(tactic| (with_reducible refine pairM_i ?_))
local macro_rules | `(tactic| tm_at "st") => `(tactic| (with_reducible refine dicG_t ?_))
local macro_rules | `(tactic| tm_at "st") => `(tactic| (with_reducible refine dicG_f ?_))
local macro_rules | `(tactic| tm_at "st") => `(tactic| (with_reducible refine seq_D ?_))
local macro_rules | `(tactic| tm_at "st") => `(tactic| (with_reducible refine len_D ?_))
local macro_rules | `(tactic| tm_at "st") => `(tactic| (with_reducible refine star_T ?_))
local macro_rules | `(tactic| tm_at "st") => `(tactic| (with_reducible refine star_L ?_))
local macro_rules | `(tactic| tm_at "st") => `(tactic| (with_reducible refine sum_L ?_))
local macro_rules | `(tactic| tm_at "st") => `(tactic| (with_reducible refine rai_i ?_))
local macro_rules | `(tactic| tm_at "st") => `(tactic| (with_reducible refine un2_i ?_))
local macro_rules | `(tactic| tm_at "st") => `(tactic| (with_reducible refine ut2_i ?_))
local macro_rules | `(tactic| tm_at "st") => `(tactic| (with_reducible refine someM_i ?_))
local macro_rules | `(tactic| tm_at "st") => `(tactic| (with_reducible refine lsM_i ?_))
local macro_rules | `(tactic| tm_at "st") => `(tactic| (with_reducible refine zip_T ?_))
local macro_rules | `(tactic| tm_at "st") => `(tactic| (with_reducible refine zip_L ?_))
local macro_rules | `(tactic| tm_at "st") => `(tactic| (with_reducible refine seq_L ?_))
local macro_rules | `(tactic| tm_at "st") => `(tactic| (with_reducible refine seq_T ?_))
local macro_rules | `(tactic| tm_at "st") => `(tactic| (with_reducible refine tuple_L ?_))
local macro_rules | `(tactic| tm_at "st") => `(tactic| (with_reducible refine tuple_T ?_))
local macro_rules | `(tactic| tm_at "st") => `(tactic| (with_reducible refine list_K ?_))
local macro_rules | `(tactic| tm_at "st") => `(tactic| (with_reducible refine list_L ?_))
local macro_rules | `(tactic| tm_at "st") => `(tactic| (with_reducible refine list_T ?_))
local macro_rules | `(tactic| tm_at "st") => `(tactic| (with_reducible refine len_L ?_))
local macro_rules | `(tactic| tm_at "st") => `(tactic| (with_reducible refine len_T ?_))
local macro_rules | `(tactic| tm_at "st") => `(tactic| (with_reducible refine min_i ?_))
local macro_rules | `(tactic| tm_at "st") => `(tactic| (with_reducible refine max_i ?_))
local macro_rules | `(tactic| tm_at "st") => `(tactic| (with_reducible refine int_b ?_))
local macro_rules | `(tactic| tm_at "st") => `(tactic| (with_reducible refine int_i ?_))
local macro_rules | `(tactic| tm_at "st") => `(tactic| (with_reducible refine abs_i ?_))
local macro_rules | `(tactic| tm_at "st") => `(tactic| (with_reducible refine notM_i ?_))
local macro_rules | `(tactic| tm_at "st") => `(tactic| (with_reducible refine notM_f ?_))
local macro_rules | `(tactic| tm_at "st") => `(tactic| (with_reducible refine notM_t ?_))
local macro_rules | `(tactic| tm_at "st") => `(tactic| (with_reducible refine andM_fi ?_))
local macro_rules | `(tactic| tm_at "st") => `(tactic| (with_reducible refine andM_ti ?_))
local macro_rules | `(tactic| tm_at "st") => `(tactic| (with_reducible refine orB_f ?_))
local macro_rules | `(tactic| tm_at "st") => `(tactic| (with_reducible refine orB_t ?_))
local macro_rules | `(tactic| tm_at "st") => `(tactic| (with_reducible refine andB_f ?_))
local macro_rules | `(tactic| tm_at "st") => `(tactic| (with_reducible refine andB_t ?_))
local macro_rules | `(tactic| tm_at "st") => `(tactic| (with_reducible refine notB_i ?_))
local macro_rules | `(tactic| tm_at "st") => `(tactic| (with_reducible refine notB_f ?_))
local macro_rules | `(tactic| tm_at "st") => `(tactic| (with_reducible refine notB_t ?_))
local macro_rules | `(tactic| tm_at "st") => `(tactic| (with_reducible refine tru_tup ?_))
local macro_rules | `(tactic| tm_at "st") => `(tactic| (with_reducible refine tru_lst ?_))
local macro_rules | `(tactic| tm_at "st") => `(tactic| (with_reducible refine tru_bl ?_))
local macro_rules | `(tactic| tm_at "st") => `(tactic| (with_reducible refine tru_int ?_))
local macro_rules | `(tactic| tm_at "st") => `(tactic| (with_reducible refine cmpM_i ?_))
local macro_rules | `(tactic| tm_at "st") => `(tactic| (with_reducible refine isnN_i ?_))
local macro_rules | `(tactic| tm_at "st") => `(tactic| (with_reducible refine isN_i ?_))
local macro_rules | `(tactic| tm_at "st") => `(tactic| (with_reducible refine ge_i ?_))
local macro_rules | `(tactic| tm_at "st") => `(tactic| (with_reducible refine gt_i ?_))
local macro_rules | `(tactic| tm_at "st") => `(tactic| (with_reducible refine le_i ?_))
local macro_rules | `(tactic| tm_at "st") => `(tactic| (with_reducible refine lt_i ?_))
local macro_rules | `(tactic| tm_at "st") => `(tactic| (with_reducible refine ne_i ?_))
local macro_rules | `(tactic| tm_at "st") => `(tactic| (with_reducible refine eq_i ?_))
local macro_rules | `(tactic| tm_at "st") => `(tactic| (with_reducible refine iadd_i ?_))
local macro_rules | `(tactic| tm_at "st") => `(tactic| (with_reducible refine neg_i ?_))
local macro_rules | `(tactic| tm_at "st") => `(tactic| (with_reducible refine sub_i ?_))
local macro_rules | `(tactic| tm_at "st") => `(tactic| (with_reducible refine add_i ?_))
local macro_rules | `(tactic| tm_at "st") => `(tactic| (with_reducible refine iteM_nfi ?_))
local macro_rules | `(tactic| tm_at "st") => `(tactic| (with_reducible refine iteM_nti ?_))
local macro_rules | `(tactic| tm_at "st") => `(tactic| (with_reducible refine iteM_fi ?_))
local macro_rules | `(tactic| tm_at "st") => `(tactic| (with_reducible refine iteM_ti ?_))
local macro_rules | `(tactic| tm_at "st") => `(tactic| (with_reducible refine fnR_same ?_))
local macro_rules | `(tactic| tm_at "st") => `(tactic| (with_reducible refine fnRK_i ?_))
local macro_rules | `(tactic| tm_at "st") => `(tactic| (with_reducible refine fnK_i ?_))
local macro_rules | `(tactic| tm_at "st") => `(tactic| (with_reducible refine fnM_i ?_))
local macro_rules | `(tactic| tm_at "st") => `(tactic| (with_reducible refine upF_i ?_))
local macro_rules | `(tactic| tm_at "st") => `(tactic| (with_reducible refine seqK_rt ?_))
local macro_rules | `(tactic| tm_at "st") => `(tactic| (with_reducible refine seqK_nx ?_))
local macro_rules | `(tactic| tm_at "st") => `(tactic| (with_reducible refine seqF_i ?_))
local macro_rules | `(tactic| tm_at "st") => `(tactic| (with_reducible refine rtM_i ?_))
local macro_rules | `(tactic| tm_at "st") => `(tactic| (with_reducible refine bnd_i ?_))
local macro_rules | `(tactic| tm_at "st") => `(tactic| (with_reducible refine sl_L ?_))
local macro_rules | `(tactic| tm_at "st") => `(tactic| (with_reducible refine sl_T ?_))
local macro_rules | `(tactic| tm_at "st") => `(tactic| (with_reducible refine intO_i ?_))
local macro_rules | `(tactic| tm_at "st") => `(tactic| (with_reducible refine ret_i ?_))
local macro_rules | `(tactic| tm_at "en") => `(tactic| (first | (with_reducible refine sp1_i ?_) | (with_reducible refine sp2_i ?_) | (with_reducible refine sp3_i ?_) | (with_reducible refine sp4_i ?_) | (with_reducible refine sp5_i ?_) | (with_reducible refine sp6_i ?_)))
local macro_rules | `(tactic| tm_at "mm") => `(tactic| repeat tm_at "st")
local macro_rules | `(tactic| tm_at "bb1") => `(tactic| (with_reducible refine ret_i ?_))
local macro_rules | `(tactic| tm_at "bb1") => `(tactic| (with_reducible refine bnd_i ?_))
local macro_rules | `(tactic| tm_at "bb") => `(tactic| repeat tm_at "bb1")
def addG (gs : List (List Int)) (p : Int) : List (List Int) := gs ++ gs.map (· ++ [p])
def allG (n : Nat) : List (List Int) := (List.range n).foldl (fun gs p => addG gs (p : Nat)) [[]]
def grp : Nat → List (List Int)
  | 0 => []
  | n + 1 => [0] :: (grp n).map (fun g => 0 :: g.map (· + 1)) ++ (grp n).map (fun g => g.map (· + 1))
theorem grp_srt : ∀ n, n ≤ 5 → ([] :: grp n).Pairwise (fun a c => lexI c a = false) := by decide +kernel
theorem grp_perm : ∀ n, n ≤ 5 → ([] :: grp n).isPerm (allG n) = true := by decide +kernel
theorem grp_nodup : ∀ n, n ≤ 5 → (grp n).Nodup := by decide +kernel
theorem grp_hash : ∀ n, n ≤ 5 → ((grp n).map hI).Nodup := by decide +kernel
def intsD (n : Nat) : List D := rangeD 0 n
theorem is_integer_int {i : Int} {m : Led} {R : D → Led → Prop} {E : XR} (k : R (.bl true) m) : m_is_integer [.int i] m R E := by
  unfold m_is_integer; tm_at "en"; unfold b_is_integer
  tm_at "mm"
  exact k
theorem check_players_ok {n : Int} {m : Led} {R : D → Led → Prop} {E : XR} (h1 : 1 ≤ n) (h2 : n ≤ 5) (k : R .non m) : m_check_players [.int n] m R E := by
  unfold m_check_players; tm_at "en"; unfold b_check_players
  tm_at "mm"
  refine is_integer_int ?_
  tm_at "mm"
  refine chainB_i (fun _ => ?_) (fun h => absurd h1 (of_decide_eq_false h))
  tm_at "mm"
  show cmpB _ _ (.int 5) _ _ _
  tm_at "mm"
  rw [decide_eq_true h2]
  tm_at "mm"
  exact fnR_nx k
theorem allG_succ (i : Nat) : allG (i + 1) = addG (allG i) (i : Nat) := by unfold allG; rw [List.range_succ, List.foldl_append]; rfl
theorem allG_small : ∀ i, i ≤ 5 → (allG i).length ≤ 32 ∧ ∀ g ∈ allG i, g.length ≤ 5 := by decide +kernel
theorem allG_first : ∀ i, i ≤ 5 → (allG i)[0]? = some [] := by decide +kernel
theorem cut_1 {x : D} {xs : List D} : DL.cutD (x :: xs) (some 1) none = xs := by
  unfold DL.cutD
  simp [HT.sIx]
theorem sort_cut {n : Nat} {m : Led} {R : D → Led → Prop} {E : XR} (hn : n ≤ 5) (k : R (.lst ([] :: grp n |>.map keyD)) m) : sortG false [.lst ((allG n).map keyD)] m R E :=
  sortT_f (.inr (allG_first n hn)) (List.isPerm_iff.mp (grp_perm n hn)) (grp_srt n hn) k
theorem groups_of_ok {n : Nat} {m : Led} {R : D → Led → Prop} {E : XR} (hn : n ≤ 5) (k : R (.lst ((grp n).map keyD)) m) : m_groups_of [.lst (rangeD 0 n)] m R E := by
  unfold m_groups_of; tm_at "en"; unfold b_groups_of
  tm_at "mm"
  rw [rangeD_map]
  refine for_ind (fun xs (s : D) m' => m' = m ∧ ∃ i, xs = (List.range n).drop i ∧ i ≤ n ∧ s = .lst ((allG i).map keyD)) ?_ ?_ _ _ _ ⟨rfl, 0, rfl, Nat.zero_le _, rfl⟩
  · rintro x xs s m' ⟨rfl, i, hx, hi, rfl⟩ Q h1 _ _
    have hlt : i < n := by
      rcases Nat.lt_or_ge i n with h | h
      · exact h
      · rw [List.drop_eq_nil_of_le (by simpa using h)] at hx; cases hx
    rw [List.drop_eq_getElem_cons (by simpa using hlt)] at hx
    obtain ⟨rfl, rfl⟩ : i = x ∧ xs = (List.range n).drop (i + 1) := by simpa [eq_comm] using hx
    obtain ⟨s1, s2⟩ := allG_small i (by omega)
    tm_at "mm"
    refine comp_map (e := keyD) (g := fun g => keyD (g ++ [(i : Int)])) _ _ (fun g hg Q hq => ?_) (by simp; omega) ?_
    · have hgl := s2 g hg
      unfold keyD
      tm_at "mm"
      simpa [keyD] using hq
    · tm_at "mm"
      refine h1 _ _ ⟨rfl, i + 1, rfl, hlt, ?_⟩
      rw [allG_succ]
      simp [addG]
  · rintro s m' ⟨rfl, i, hx, hi, rfl⟩
    have e : i = n := by
      have := congrArg List.length hx
      simp at this
      omega
    subst e
    tm_at "mm"
    refine sort_cut hn ?_
    tm_at "mm"
    rw [List.map_cons, cut_1]
    exact k


theorem law_groups_ok {n : Nat} {m : Led} {R : D → Led → Prop} {E : XR} (hn : n ≤ 5) (k : R (.lst ((grp n).map keyD)) m) : m_law_groups [.int (n : Int)] m R E := by
  unfold m_law_groups; tm_at "en"; unfold b_law_groups
  tm_at "mm"
  refine rng_i (by omega) (by omega) ?_
  tm_at "mm"
  rw [Int.toNat_natCast, rangeD_map]
  refine for_ind (fun xs (s : D) m' => m' = m ∧ ∃ i, xs = (List.range n).drop i ∧ i ≤ n ∧ s = .lst ((allG i).map keyD)) ?_ ?_ _ _ _ ⟨rfl, 0, rfl, Nat.zero_le _, rfl⟩
  · rintro x xs s m' ⟨rfl, i, hx, hi, rfl⟩ Q h1 _ _
    have hlt : i < n := by
      rcases Nat.lt_or_ge i n with h | h
      · exact h
      · rw [List.drop_eq_nil_of_le (by simpa using h)] at hx; cases hx
    rw [List.drop_eq_getElem_cons (by simpa using hlt)] at hx
    obtain ⟨rfl, rfl⟩ : i = x ∧ xs = (List.range n).drop (i + 1) := by simpa [eq_comm] using hx
    obtain ⟨s1, s2⟩ := allG_small i (by omega)
    tm_at "mm"
    refine comp_map (e := keyD) (g := fun g => keyD (g ++ [(i : Int)])) _ _ (fun g hg Q hq => ?_) (by simp; omega) ?_
    · have hgl := s2 g hg
      unfold keyD
      tm_at "mm"
      refine catT_i (by simp; omega) ?_
      tm_at "mm"
      simpa [keyD] using hq
    · tm_at "mm"
      refine cat_i (by simp; omega) ?_
      tm_at "mm"
      refine h1 _ _ ⟨rfl, i + 1, rfl, hlt, ?_⟩
      rw [allG_succ]
      simp [addG]
  · rintro s m' ⟨rfl, i, hx, hi, rfl⟩
    have e : i = n := by
      have := congrArg List.length hx
      simp at this
      omega
    subst e
    tm_at "mm"
    refine sort_cut hn ?_
    tm_at "mm"
    rw [List.map_cons, cut_1]
    exact k
theorem groups_ok {n : Nat} {m : Led} {R : D → Led → Prop} {E : XR} (h0 : 1 ≤ n) (hn : n ≤ 5) (k : R (.lst ((grp n).map keyD)) m) : m_groups [.int (n : Int)] m R E := by
  unfold m_groups; tm_at "en"; unfold b_groups
  tm_at "mm"
  refine check_players_ok (by omega) (by omega) ?_
  tm_at "mm"
  refine lrg_f (by omega) (by omega) ?_
  tm_at "mm"
  rw [Int.toNat_natCast]
  refine groups_of_ok hn ?_
  tm_at "mm"
  exact k
theorem are_integers_T {ns : List Int} {m : Led} {R : D → Led → Prop} {E : XR} (hl : ns.length ≤ 1000) (k : R (.bl true) m) : m_are_integers [keyD ns] m R E := by
  unfold m_are_integers; tm_at "en"; unfold b_are_integers keyD
  tm_at "mm"
  refine comp_map (e := D.int) (g := fun _ => .bl true) ns _ (fun g hg Q hq => ?_) (by simp; omega) ?_
  · tm_at "mm"
    refine is_integer_int ?_
    tm_at "mm"
    exact hq
  · tm_at "mm"
    have e : ns.map (fun _ => D.bl true) = (ns.map fun _ => true).map D.bl := by simp
    rw [List.nil_append, e]
    refine all_L ?_
    tm_at "mm"
    have e2 : ((ns.map fun _ => true).all id) = true := by simp
    rw [e2]
    exact k


def prs : List Int → List (Int × Int)
  | a :: b :: t => (a, b) :: prs (b :: t)
  | _ => []
theorem prs_zip : ∀ (g : List Int) (a : Int), zipD ((a :: g).map D.int) (g.map D.int) = (prs (a :: g)).map (fun p => D.tup [.int p.1, .int p.2]) := by
  intro g
  induction g with
  | nil => intro a; rfl
  | cons b t ih => intro a; have := ih b; simp only [List.map_cons, prs, zipD] at this ⊢; rw [this]
theorem prs_len : ∀ (g : List Int), (prs g).length ≤ g.length
  | [] => by simp [prs]
  | [_] => by simp [prs]
  | a :: b :: t => by have := prs_len (b :: t); simp [prs] at this ⊢; omega
def isG (n : Int) (g : List Int) : Bool := match g with
  | [] => false
  | a :: t => decide (0 ≤ a) && (decide ((a :: t).getLast (by simp) < n) && (prs (a :: t)).all (fun p => decide (p.1 < p.2)))
theorem isG_cons {n a : Int} {t : List Int} : isG n (a :: t) = (decide (0 ≤ a) && (decide ((a :: t).getLast (by simp) < n) && (prs (a :: t)).all (fun p => decide (p.1 < p.2)))) := rfl
theorem atI_last {a : Int} {t : List Int} : atI ((a :: t).map D.int) (-1) = some (.int ((a :: t).getLast (by simp))) := by
  unfold atI
  have h : ((a :: t).map D.int).length = t.length + 1 := by simp
  rw [h]
  have h2 : ixN (t.length + 1) (-1) = some t.length := by
    unfold ixN
    simp
    omega
  rw [h2]
  show ((a :: t).map D.int)[t.length]? = _
  rw [List.getElem?_map, List.getLast_eq_getElem]
  simp
theorem is_group_T {n : Int} {g : List Int} {m : Led} {R : D → Led → Prop} {E : XR} (hl : g.length ≤ 1000) (k : R (.bl (isG n g)) m) : m_is_group [.int n, keyD g] m R E := by
  unfold m_is_group; tm_at "en"; unfold b_is_group
  have ki := @are_integers_T g
  cases g with
  | nil =>
    unfold keyD
    tm_at "mm"
    rw [show decide (((List.map D.int []).length : Int) = 0) = true from rfl]
    tm_at "mm"
    exact k
  | cons a t =>
    unfold keyD at ki ⊢
    tm_at "mm"
    rw [show decide (((List.map D.int (a :: t)).length : Int) = 0) = false from decide_eq_false (by simp; omega)]
    tm_at "mm"
    refine ki hl ?_
    tm_at "mm"
    refine ixT_i (v := .int a) atI_0 ?_
    tm_at "mm"
    refine andM_i (fun h1 => ?_) (fun h1 => ?_)
    · tm_at "mm"
      refine ixT_i atI_last ?_
      tm_at "mm"
      refine andM_i (fun h2 => ?_) (fun h2 => ?_)
      · tm_at "mm"
        rw [List.map_cons, cut_1n, ← List.map_cons, prs_zip]
        have hp := prs_len (a :: t)
        refine comp_map (e := fun p : Int × Int => D.tup [.int p.1, .int p.2]) (g := fun p => .bl (decide (p.1 < p.2))) _ _ (fun p hp Q hq => ?_) (by simp at *; omega) ?_
        · tm_at "mm"
          exact hq
        · tm_at "mm"
          have e : (prs (a :: t)).map (fun p => D.bl (decide (p.1 < p.2))) = ((prs (a :: t)).map fun p => decide (p.1 < p.2)).map D.bl := by simp
          rw [List.nil_append, e]
          refine all_L ?_
          tm_at "mm"
          have e2 : isG n (a :: t) = ((prs (a :: t)).map fun p => decide (p.1 < p.2)).all id := by
            rw [isG_cons, h1, h2, Bool.true_and, Bool.true_and, List.all_map]
            rfl
          rw [e2] at k
          exact k
      · tm_at "mm"
        have e2 : isG n (a :: t) = false := by
          rw [isG_cons, h2]; simp
        rw [e2] at k
        exact k
    · tm_at "mm"
      have e2 : isG n (a :: t) = false := by
        rw [isG_cons, h1]; simp
      rw [e2] at k
      exact k
theorem isG_grp : ∀ n, n ≤ 5 → ∀ g ∈ grp n, isG n g = true := by decide +kernel
theorem grp_small : ∀ n, n ≤ 5 → (grp n).length ≤ 31 ∧ ∀ g ∈ grp n, g.length ≤ 5 := by decide +kernel


def wD (n : Nat) (w : List Int → Int) : D := .dI (grp n) ((grp n).map fun g => .int (w g))
theorem ix_w {n : Nat} {w : List Int → Int} {g : List Int} {m : Led} {R : D → Led → Prop} {E : XR} (hg : g ∈ grp n) (k : R (.int (w g)) m) : ixM (wD n w) (keyD g) m R E := by
  obtain ⟨i, hi⟩ := List.mem_iff_getElem?.mp hg
  exact ixD_i i hi (by rw [List.getElem?_map, hi]; rfl) k
theorem has_worths_ok {n : Nat} {w : List Int → Int} {m : Led} {R : D → Led → Prop} {E : XR} (h0 : 1 ≤ n) (hn : n ≤ 5) (k : R (.bl true) m) : m_has_worths [.int (n : Int), wD n w] m R E := by
  unfold m_has_worths; tm_at "en"; unfold b_has_worths
  have hix := @ix_w n w
  obtain ⟨s1, s2⟩ := grp_small n hn
  tm_at "mm"
  refine isiO_dr (r := true) (by decide) (by decide) ?_
  tm_at "mm"
  refine len_D ?_
  tm_at "mm"
  refine groups_ok h0 hn ?_
  tm_at "mm"
  rw [List.length_map, decide_eq_true rfl]
  tm_at "mm"
  refine seq_D ?_
  tm_at "mm"
  refine comp_map (e := keyD) (g := fun _ => .bl true) _ _ (fun g hg Q hq => ?_) (by simp; omega) ?_
  · have := s2 g hg
    tm_at "mm"
    refine is_group_T (by omega) ?_
    rw [isG_grp n hn g hg]
    tm_at "mm"
    refine hix hg ?_
    tm_at "mm"
    refine is_integer_int ?_
    tm_at "mm"
    exact hq
  · tm_at "mm"
    have e : (grp n).map (fun _ => D.bl true) = ((grp n).map fun _ => true).map D.bl := by simp
    rw [List.nil_append, e]
    refine all_L ?_
    tm_at "mm"
    have e2 : (((grp n).map fun _ => true).all id) = true := by simp
    rw [e2]
    exact k
def gameN : List Str := ["players", "listed", "worth_of", "whole"]
def gameV (n : Nat) (w : List Int → Int) : List D := [.int (n : Int), .lst ((grp n).map keyD), wD n w, .tup (rangeD 0 n)]
def gameD (n : Nat) (w : List Int → Int) : D := .obj "Game" gameN (gameV n w)
theorem get2 {m : Led} {a b : Addr × MO} : (m ++ [a, b])[m.length + 1]? = some b := by simp
theorem set2 {m : Led} {a b c : Addr × MO} : (m ++ [a, b]).set (m.length + 1) c = m ++ [a, c] := by simp
theorem fnR_nl {m m' : Led} {R : D → Led → Prop} (e : m'.length = m.length) (h : R .non m') : fnR m R (.nx ()) m' := by show R .non (m'.take m.length); rw [← e, List.take_length]; exact h
theorem game_ok {n : Nat} {w : List Int → Int} {m : Led} {R : D → Led → Prop} {E : XR} (h0 : 1 ≤ n) (hn : n ≤ 5) (k : R (gameD n w) m) : makeM "Game" m_Game___init__ [.int (n : Int), wD n w] m R E := by
  intro x dx
  obtain ⟨s1, s2⟩ := grp_small n hn
  unfold m_Game___init__; tm_at "en"; unfold b_Game___init__
  tm_at "mm"
  refine check_players_ok (by omega) (by omega) ?_
  tm_at "mm"
  refine stF_i (m.length + 1) get2 (by decide) ?_
  rw [set2]
  tm_at "mm"
  refine lrg_f (by omega) (by omega) ?_
  tm_at "mm"
  rw [Int.toNat_natCast]
  refine groups_of_ok hn ?_
  tm_at "mm"
  refine stF_i (m.length + 1) get2 (by decide) ?_
  rw [set2]
  tm_at "mm"
  refine has_worths_ok h0 hn ?_
  tm_at "mm"
  refine att_r (m.length + 1) get2 (v := .lst ((grp n).map keyD)) (by rfl) ?_
  tm_at "mm"
  refine dc_map (g := fun g => .int (w g)) _ (grp_nodup n hn) (by omega) (fun g hg Q hq => ?_) ?_
  · tm_at "mm"
    refine ix_w hg ?_
    tm_at "mm"
    exact hq
  · tm_at "mm"
    refine stF_i (m.length + 1) get2 (by decide) ?_
    rw [set2]
    tm_at "mm"
    refine trg_i (by omega) (by omega) ?_
    tm_at "mm"
    refine stF_i (m.length + 1) get2 (by decide) ?_
    rw [set2]
    tm_at "mm"
    have e : ∀ {a b c d : Addr × MO}, (m ++ [a, b]).take (m ++ [c, d]).length = m ++ [a, b] := by intros; exact List.take_of_length_le (by simp)
    have e2 : ∀ {a b : Addr × MO}, (m ++ [a, b]).take m.length = m := by intros; simp
    refine fnR_nl (by simp) ?_
    refine ⟨rfl, _, _, get2, ?_⟩
    rw [e2]
    exact k


theorem pool_ok {ns : List Int} {m : Led} {R : D → Led → Prop} {E : XR} (k : ∀ p, R (.ref p) (m ++ [(p, poolO 0 0 ns)])) : m_law_pool [.lsk (ns.map D.int)] m R E := by
  show fnK (b_law_pool _) m R E
  unfold b_law_pool
  tm_at "mm"
  exact newL_i (by simp) k
theorem take_ok {p : Addr} {a c many : Int} {ns : List Int} {rest : Led} {R : D → Led → Prop} {E : XR} (hn : ns.length ≤ 63) (h0 : 0 < many) (ha : 0 ≤ a) (ha2 : a ≤ 1000000) (hc : 0 ≤ c) (hb : Bd 4000 many)
    (k : ∀ r a' c' : Int, 0 ≤ r → r < many → a ≤ a' → a' ≤ a + 1 → 0 ≤ c' → R (.int r) ((p, poolO a' c' ns) :: rest)) : m_law_take [.ref p, .int many] ((p, poolO a c ns) :: rest) R E := by
  show fnM (b_law_take _ _) _ R E
  unfold b_law_take
  have Ba : Bd 40 a := by unfold Bd; omega
  have hz : ∃ z, atI (ns.map D.int ++ [D.int 0]) (a % max 1 (((ns.map D.int).length : Nat) : Int)) = some (.int z) := by
    have h1 : (0 : Int) < max 1 (((ns.map D.int).length : Nat) : Int) := by omega
    have h2 := Int.emod_nonneg a (Int.ne_of_gt h1)
    have h3 := Int.emod_lt_of_pos a h1
    obtain ⟨j, hj⟩ := Int.eq_ofNat_of_zero_le h2
    have h4 : j < (ns ++ [0]).length := by
      rw [hj, List.length_map] at h3
      simp only [List.length_append, List.length_cons, List.length_nil]
      omega
    refine ⟨(ns ++ [0])[j], ?_⟩
    rw [hj]
    refine atI_nat ?_
    rw [show ns.map D.int ++ [D.int 0] = (ns ++ [0]).map D.int by simp, List.getElem?_map, List.getElem?_eq_getElem h4]
    rfl
  obtain ⟨z, hz⟩ := hz
  tm_at "mm"
  refine ixR_i 0 rfl atI_1 ?_
  tm_at "mm"
  have tail : ∀ (a0 c0 : Int), a ≤ a0 → a0 ≤ a + 1 → 0 ≤ c0 → (bnd (bnd (bnd (bnd (bnd (DL.ret (.ref p)) fun x59 => bnd (DL.ret (.int 1)) fun x60 => ixM x59 x60) fun d61 => bnd (DL.ret []) fun ds62 => DL.ret (d61 :: ds62)) intM) fun x63 => bnd (DL.ret (.int many)) fun x64 => binM .Mod x63 x64) fun v_law_digit => bnd (bnd (bnd (DL.ret (.ref p)) fun x65 => bnd (DL.ret (.int 1)) fun x66 => ixM x65 x66) fun x67 => bnd (DL.ret (.int many)) fun x68 => binM .FloorDiv x67 x68) fun x69 => bnd (DL.ret (.ref p)) fun x70 => bnd (DL.ret (.int 1)) fun x71 => bnd (DL.stM x70 x71 x69) fun _ => bnd (DL.ret v_law_digit) rtM) ((p, poolO a0 c0 ns) :: rest) (fnR ((p, poolO a c ns) :: rest) R) (fun nm fd m' => E nm fd (m'.take ((p, poolO a c ns) :: rest).length)) := by
    intro a0 c0 h1 h2 h3
    tm_at "mm"
    refine ixR_i 0 rfl atI_1 ?_
    tm_at "mm"
    refine ixR_i 0 rfl atI_1 ?_
    tm_at "mm"
    refine fdiv_i (hb.divG (by omega) (by decide)) ?_
    tm_at "mm"
    refine st_i 0 1 rfl rfl ?_
    tm_at "mm"
    refine fnR_len rfl ?_
    have e : c0.fdiv many = c0 / many := Int.fdiv_eq_ediv_of_nonneg _ (Int.le_of_lt h0)
    rw [e]
    exact k _ a0 (c0 / many) (Int.emod_nonneg _ (Int.ne_of_gt h0)) (Int.emod_lt_of_pos _ h0) h1 h2 (Int.ediv_nonneg h3 (Int.le_of_lt h0))
  refine iteM_dec (fun h => ?_) (fun h => ?_)
  · tm_at "mm"
    refine ixR_i 0 rfl atI_0 ?_
    tm_at "mm"
    refine st_i 0 0 rfl rfl ?_
    tm_at "mm"
    refine ixR_i 0 rfl atI_2 ?_
    tm_at "mm"
    refine cat_i (by simp; omega) ?_
    tm_at "mm"
    refine ixR_i 0 rfl atI_2 ?_
    tm_at "mm"
    refine ixL_i hz ?_
    tm_at "mm"
    refine iteM_dec (fun h2 => ?_) (fun h2 => ?_)
    · tm_at "mm"
      refine fdiv_i ((Bd.lit 11).divG (by decide) (by decide)) ?_
      tm_at "mm"
      refine fnR_len rfl ?_
      exact k _ (a + 1) c (Int.emod_nonneg _ (Int.ne_of_gt h0)) (Int.emod_lt_of_pos _ h0) (by omega) (by omega) hc
    · tm_at "mm"
      refine st_i 0 1 rfl rfl ?_
      tm_at "mm"
      have hz0 : 0 ≤ z := by
        have e : (10 : Int) ^ Int.toNat 18 = 1000000000000000000 := by decide
        rw [e] at h2
        omega
      exact tail (a + 1) z (by omega) (by omega) hz0
  · tm_at "mm"
    exact tail a c (by omega) (by omega) hc

def Gp (n : Nat) (g : List Int) : Prop := g ≠ [] ∧ g.Pairwise (· < ·) ∧ ∀ x ∈ g, 0 ≤ x ∧ x < n
theorem shift_id (g : List Int) : (g.map (· - 1)).map (· + 1) = g := by
  rw [List.map_map]
  conv => rhs; rw [← List.map_id g]
  apply List.map_congr_left
  intro x _
  show x - 1 + 1 = x
  omega
theorem Gp.down {n : Nat} {g : List Int} (h0 : g ≠ []) (h1 : g.Pairwise (· < ·)) (h2 : ∀ x ∈ g, 1 ≤ x ∧ x < (n : Int) + 1) : Gp n (g.map (· - 1)) := by
  refine ⟨by simpa using h0, List.pairwise_map.mpr (h1.imp fun {a b} h => by show a - 1 < b - 1; omega), fun x hx => ?_⟩
  obtain ⟨y, hy, rfl⟩ := List.mem_map.mp hx
  have := h2 y hy
  exact ⟨by omega, by omega⟩
theorem mem_grp : ∀ {n : Nat} {g : List Int}, Gp n g → g ∈ grp n
  | 0, g, ⟨h0, _, h2⟩ => by
    cases g with
    | nil => exact absurd rfl h0
    | cons x t => have := h2 x (by simp); omega
  | n + 1, [], ⟨h0, _, _⟩ => absurd rfl h0
  | n + 1, a :: t, ⟨_, h1, h2⟩ => by
    obtain ⟨q1, q2⟩ := List.pairwise_cons.mp h1
    have ha := h2 a (by simp)
    unfold grp
    have c1 : ((n + 1 : Nat) : Int) = (n : Int) + 1 := by omega
    by_cases e : a = 0
    · subst e
      cases t with
      | nil => simp
      | cons b u =>
        have hd : Gp n ((b :: u).map (· - 1)) := Gp.down (by simp) q2 fun x hx => by
          have h3 := q1 x hx
          have h4 := h2 x (by simp only [List.mem_cons]; right; simpa using hx)
          rw [c1] at h4
          omega
        have := mem_grp hd
        have hm : (0 :: ((b :: u).map (· - 1)).map (· + 1)) ∈ (grp n).map (fun g => (0 : Int) :: g.map (· + 1)) := List.mem_map.mpr ⟨_, this, rfl⟩
        rw [shift_id] at hm
        simp only [List.mem_append, List.mem_cons]
        exact .inl (.inr hm)
    · have hd : Gp n ((a :: t).map (· - 1)) := Gp.down (by simp) h1 fun x hx => by
        have h4 := h2 x hx
        rw [c1] at h4
        rcases List.mem_cons.mp hx with rfl | hx
        · omega
        · have := q1 x hx
          omega
      have := mem_grp hd
      have hm : ((a :: t).map (· - 1)).map (· + 1) ∈ (grp n).map (fun g => g.map (· + 1)) := List.mem_map.mpr ⟨_, this, rfl⟩
      rw [shift_id] at hm
      simp only [List.mem_append, List.mem_cons]
      exact .inr hm
def rng (n : Nat) : List Int := (List.range n).map fun i : Nat => (i : Int)
theorem rng_D (n : Nat) : rangeD 0 n = (rng n).map D.int := by
  rw [rangeD_map]
  simp [rng]
theorem rng_lt (n : Nat) : (rng n).Pairwise (· < ·) := by
  unfold rng
  rw [List.pairwise_map]
  exact List.pairwise_lt_range.imp fun h => by omega
theorem rng_mem {n : Nat} {x : Int} : x ∈ rng n ↔ 0 ≤ x ∧ x < n := by
  unfold rng
  rw [List.mem_map]
  constructor
  · rintro ⟨i, hi, rfl⟩
    rw [List.mem_range] at hi
    omega
  · rintro ⟨h1, h2⟩
    exact ⟨x.toNat, by rw [List.mem_range]; omega, by omega⟩
theorem rng_Gp {n : Nat} (h : 1 ≤ n) : Gp n (rng n) := by
  refine ⟨?_, rng_lt n, fun x hx => rng_mem.mp hx⟩
  intro e
  have : (0 : Int) ∈ rng n := rng_mem.mpr ⟨by omega, by omega⟩
  rw [e] at this
  cases this
theorem lt_nodup {l : List Int} (h : l.Pairwise (· < ·)) : l.Nodup := h.imp fun h => by omega
def Ord (n : Nat) (os : List Int) : Prop := os.Perm (rng n)
theorem Ord.nodup {n : Nat} {os : List Int} (h : Ord n os) : os.Nodup := h.symm.nodup_iff.mp (lt_nodup (rng_lt n))
theorem Ord.mem {n : Nat} {os : List Int} (h : Ord n os) {x : Int} : x ∈ os ↔ 0 ≤ x ∧ x < n := h.mem_iff.trans rng_mem
theorem Ord.len {n : Nat} {os : List Int} (h : Ord n os) : os.length = n := by rw [h.length_eq]; simp [rng]
def srt (l : List Int) : List Int := l.mergeSort (fun a b => decide (a ≤ b))
def preW (w : List Int → Int) (os : List Int) (i : Nat) : Int := if i = 0 then 0 else w (srt (os.take i))
def addW (w : List Int → Int) (os : List Int) : Nat → List Int
  | 0 => List.replicate os.length 0
  | i + 1 => (addW w os i).set (os[i]?.getD 0).toNat (preW w os (i + 1) - preW w os i)
theorem fun_of : ∀ {ks : List (List Int)} {vs : List Int}, ks.Nodup → ks.length = vs.length → ∃ w : List Int → Int, ks.map w = vs ∧ ∀ P : Int → Prop, P 0 → (∀ v ∈ vs, P v) → ∀ g, P (w g)
  | [], [], _, _ => ⟨fun _ => 0, rfl, fun P h _ _ => h⟩
  | k :: ks, v :: vs, nd, h => by
    obtain ⟨w, e, hp⟩ := fun_of (List.nodup_cons.mp nd).2 (by simpa using h)
    refine ⟨fun g => if g = k then v else w g, ?_, fun P h0 hv g => ?_⟩
    · rw [List.map_cons, if_pos rfl, ← e]
      congr 1
      apply List.map_congr_left
      intro x hx
      show (if x = k then v else w x) = w x
      rw [if_neg]
      intro z
      exact (List.nodup_cons.mp nd).1 (z ▸ hx)
    · show P (if g = k then v else w g)
      split
      · exact hv v (by simp)
      · exact hp P h0 (fun x hx => hv x (by simp [hx])) g
  | [], _ :: _, _, h => by simp at h
  | _ :: _, [], _, h => by simp at h

local macro_rules | `(tactic| tm_at "tk") => `(tactic| (refine take_ok (by assumption) (by omega) (by omega) (by omega) (by assumption) ((Bd.lit _).up (by decide)) ?_))
theorem comp_pool {α β : Type} {f : D → M (Option D)} {e : α → D} {P : β → Prop} {g : α → β → D} {p : Addr} {ns : List Int} {rest : Led} {s : Nat} {A : Int} {E : XR} {R : List D → Led → Prop} : ∀ (xs : List α) (acc : List D) (a c : Int), 0 ≤ a → a + (s * xs.length : Nat) ≤ A → 0 ≤ c →
    (∀ x ∈ xs, ∀ a c : Int, 0 ≤ a → a ≤ A → 0 ≤ c → ∀ Q : Option D → Led → Prop, (∀ v a' c', P v → a ≤ a' → a' ≤ a + s → 0 ≤ c' → Q (some (g x v)) ((p, poolO a' c' ns) :: rest)) → f (e x) ((p, poolO a c ns) :: rest) Q NoX) →
    acc.length + xs.length ≤ 100000 →
    (∀ (vs : List β) (a' c' : Int), vs.length = xs.length → (∀ v ∈ vs, P v) → a ≤ a' → a' ≤ a + (s * xs.length : Nat) → 0 ≤ c' → R (acc ++ List.zipWith g xs vs) ((p, poolO a' c' ns) :: rest)) → compM f (xs.map e) acc ((p, poolO a c ns) :: rest) R E
  | [], acc, a, c, h1, h2, h3, hf, hl, k => by
    have := k [] a c rfl (by simp) (by omega) (by simp) h3
    simp at this
    exact this
  | x :: xs, acc, a, c, h1, h2, h3, hf, hl, k => by
    have e1 : s * (x :: xs).length = s + s * xs.length := by rw [List.length_cons, Nat.mul_succ]; omega
    rw [e1] at h2
    refine hf x List.mem_cons_self a c h1 (by omega) h3 _ fun v a1 c1 p1 h4 h5 h6 => ⟨by simp at hl; omega, ?_⟩
    refine comp_pool xs (acc ++ [g x v]) a1 c1 (by omega) (by omega) h6 (fun y hy => hf y (List.mem_cons_of_mem _ hy)) (by simp at hl ⊢; omega) fun vs a2 c2 q1 q2 q3 q4 q5 => ?_
    have := k (v :: vs) a2 c2 (by simp [q1]) (by
      intro z hz
      rcases List.mem_cons.mp hz with rfl | hz
      · exact p1
      · exact q2 z hz) (by omega) (by rw [e1]; omega) q5
    simpa using this
theorem fnR_rt {m m' : Led} {d : D} {R : D → Led → Prop} (h : R d (m'.take m.length)) : fnR m R (.rt d) m' := h
section
variable {p : Addr} {a c : Int} {ns : List Int} {rest : Led} {R : D → Led → Prop} {E : XR} {n : Nat} {m : Led}
theorem few_ok (hn : ns.length ≤ 63) (ha : 0 ≤ a) (ha2 : a ≤ 900000) (hc : 0 ≤ c)
    (k : ∀ (n : Nat) (a' c' : Int), 1 ≤ n → n ≤ 5 → a ≤ a' → a' ≤ a + 2 → 0 ≤ c' → R (.int (n : Int)) ((p, poolO a' c' ns) :: rest)) : m_law_few [.ref p] ((p, poolO a c ns) :: rest) R E := by
  unfold m_law_few; tm_at "en"; unfold b_law_few
  tm_at "mm"
  tm_at "tk"
  intro r a1 c1 h1 h2 h3 h4 h5
  tm_at "mm"
  have key : ∀ z : Int, 0 < z → z ≤ 5 → Bd 4000 z → m_law_take [.ref p, .int z] ((p, poolO a1 c1 ns) :: rest) (fun x20 m' => binM .Add (.int 1) x20 m' (fun d m' => rtM d m' (fnR ((p, poolO a c ns) :: rest) R) (fun nm fd m' => E nm fd (m'.take ((p, poolO a c ns) :: rest).length))) (fun nm fd m' => E nm fd (m'.take ((p, poolO a c ns) :: rest).length))) (fun nm fd m' => E nm fd (m'.take ((p, poolO a c ns) :: rest).length)) := by
    intro z z1 z2 z3
    refine take_ok hn z1 (by omega) (by omega) h5 z3 ?_
    intro r2 a2 c2 h8 h9 h10 h11 h12
    tm_at "mm"
    refine fnR_len rfl ?_
    obtain ⟨j, rfl⟩ := Int.eq_ofNat_of_zero_le h8
    have := k (1 + j) a2 c2 (by omega) (by omega) (by omega) (by omega) h12
    simpa using this
  by_cases e : r = 0
  · subst e
    rw [decide_eq_true rfl]
    refine ixL_i atI_1 ?_
    tm_at "mm"
    exact key 5 (by decide) (by decide) ((Bd.lit _).up (by decide))
  · rw [decide_eq_false e]
    refine ixL_i atI_0 ?_
    tm_at "mm"
    exact key 4 (by decide) (by decide) ((Bd.lit _).up (by decide))
def vD (n : Nat) (vs : List Int) : MO := .dI (grp n) (vs.map D.int)
theorem zip_pairD : ∀ (ks : List (List Int)) (vs : List Int), List.zipWith (fun k (v : Int) => D.tup [keyD k, .int v]) ks vs = (ks.zip (vs.map D.int)).map DL.pairD
  | [], _ => by simp
  | _ :: _, [] => by simp
  | k :: ks, v :: vs => by simp [zip_pairD ks vs, DL.pairD]
theorem zip_fst : ∀ {ks : List (List Int)} {vs : List D}, ks.length = vs.length → (ks.zip vs).map (·.1) = ks
  | [], [], _ => rfl
  | k :: ks, v :: vs, h => by simp [zip_fst (ks := ks) (vs := vs) (by simpa using h)]
  | [], _ :: _, h => by simp at h
  | _ :: _, [], h => by simp at h
theorem zip_snd : ∀ {ks : List (List Int)} {vs : List D}, ks.length = vs.length → (ks.zip vs).map (·.2) = vs
  | [], [], _ => rfl
  | k :: ks, v :: vs, h => by simp [zip_snd (ks := ks) (vs := vs) (by simpa using h)]
  | [], _ :: _, h => by simp at h
  | _ :: _, [], h => by simp at h
theorem dict_vs {vs : List Int} (hn : n ≤ 5) (hl : vs.length = (grp n).length) (k : ∀ q, R (.ref q) (m ++ [(q, vD n vs)])) : dictG true [.lst (List.zipWith (fun k (v : Int) => D.tup [keyD k, .int v]) (grp n) vs)] m R E := by
  have h1 : (grp n).length = (vs.map D.int).length := by rw [List.length_map, hl]
  have h2 := (grp_small n hn).1
  refine dict_t (kvs := (grp n).zip (vs.map D.int)) (zip_pairD _ _) (by rw [zip_fst h1]; exact grp_nodup n hn) (by rw [List.length_zip]; omega) fun q => ?_
  rw [zip_fst h1, zip_snd h1]
  exact k q
theorem any_worths_ok {most : Int} (hn : ns.length ≤ 63) (h5 : n ≤ 5) (m0 : 0 < most) (m1 : most ≤ 1000) (ha : 0 ≤ a) (ha2 : a ≤ 900000) (hc : 0 ≤ c)
    (k : ∀ (q : Addr) (vs : List Int) (a' c' : Int), vs.length = (grp n).length → (∀ v ∈ vs, -most ≤ v ∧ v ≤ most) → a ≤ a' → a' ≤ a + 31 → 0 ≤ c' → R (.ref q) ((p, poolO a' c' ns) :: rest ++ [(q, vD n vs)])) : m_law_any_worths [.ref p, .int (n : Int), .int most] ((p, poolO a c ns) :: rest) R E := by
  unfold m_law_any_worths; tm_at "en"; unfold b_law_any_worths
  obtain ⟨s1, s2⟩ := grp_small n h5
  have Bm : Bd 10 most := by unfold Bd; omega
  tm_at "mm"
  refine law_groups_ok h5 ?_
  tm_at "mm"
  refine comp_pool (e := keyD) (g := fun g (v : Int) => D.tup [keyD g, .int v]) (P := fun v => -most ≤ v ∧ v ≤ most) (s := 1) (A := 1000000) _ _ a c ha (by omega) hc (fun g hg a1 c1 q1 q2 q3 Q hq => ?_) (by simp; omega) fun vs a' c' l1 l2 l3 l4 l5 => ?_
  · tm_at "mm"
    refine take_ok hn (by omega) q1 q2 q3 ((show Bd 12 (2 * most + 1) by unfold Bd; omega).up (by decide)) ?_
    intro r a2 c2 h8 h9 h10 h11 h12
    tm_at "mm"
    exact hq _ a2 c2 ⟨by omega, by omega⟩ h10 (by omega) h12
  · tm_at "mm"
    refine dict_vs h5 l1 fun q => ?_
    tm_at "mm"
    exact k q vs a' c' l1 l2 l3 (by omega) l5
theorem law_sum_ok {vs : List Int} {g : List Int} (hl : g.length ≤ 1000) (hg : ∀ x ∈ g, 0 ≤ x ∧ x < vs.length) (k : R (.int ((g.map fun x => vs.getD x.toNat 0).sum)) m) : m_law_sum [.lst (vs.map D.int), keyD g] m R E := by
  unfold m_law_sum; tm_at "en"; unfold b_law_sum
  tm_at "mm"
  refine seq_T ?_
  tm_at "mm"
  refine comp_map (e := D.int) (g := fun x : Int => D.int (vs.getD x.toNat 0)) _ _ (fun x hx Q hq => ?_) (by simp; omega) ?_
  · have h1 := hg x hx
    obtain ⟨j, rfl⟩ := Int.eq_ofNat_of_zero_le h1.1
    have h2 : j < vs.length := by omega
    tm_at "mm"
    refine ixL_i (atI_nat (j := j) (by rw [List.getElem?_map, List.getElem?_eq_getElem h2]; rfl)) ?_
    tm_at "mm"
    simpa [h2] using hq
  · tm_at "mm"
    have e : g.map (fun x : Int => D.int (vs.getD x.toNat 0)) = (g.map fun x : Int => vs.getD x.toNat 0).map D.int := by simp
    rw [List.nil_append, e]
    refine sum_L ?_
    tm_at "mm"
    exact k
end


section
variable {p : Addr} {a c : Int} {ns : List Int} {rest : Led} {R : D → Led → Prop} {E : XR} {n : Nat} {m : Led}
theorem minL_i {vs : List Int} (h0 : 0 < vs.length) (h : ∀ i, i ∈ vs → (∀ y ∈ vs, i ≤ y) → R (.int i) m) : minM [.lst (vs.map D.int)] m R E := ⟨vs, rfl, h0, h⟩
theorem maxL_i {vs : List Int} (h0 : 0 < vs.length) (h : ∀ i, i ∈ vs → (∀ y ∈ vs, y ≤ i) → R (.int i) m) : maxM [.lst (vs.map D.int)] m R E := ⟨vs, rfl, h0, h⟩
theorem noD_ints (vs : List Int) : noDs (vs.map D.int) = true := by
  induction vs with
  | nil => rfl
  | cons v vs ih => simp [noDs, noD, ih]
theorem noD_prs (ks : List (List Int)) (f : List Int → Int) : noDs (ks.map fun g => D.tup [keyD g, .int (f g)]) = true := by
  induction ks with
  | nil => rfl
  | cons v vs ih =>
    have h1 : noD (keyD v) = true := by simp [keyD, noD, noD_ints]
    simp [noDs, noD, ih, h1]
theorem noD_pool : noDM (poolO a c ns) = true := by simp [poolO, noDM, noDs, noD, noD_ints]
theorem noDL_1 : noDL [(p, poolO a c ns)] := by
  intro x hx
  obtain rfl := List.mem_singleton.mp hx
  exact noD_pool
theorem noDL_2 {q : Addr} {vs : List Int} : noDL [(p, poolO a c ns), (q, vD n vs)] := by
  intro x hx
  rcases List.mem_cons.mp hx with rfl | hx
  · exact noD_pool
  · obtain rfl := List.mem_singleton.mp hx
    exact noD_ints vs
theorem ix_vs {f : List Int → D} {g : List Int} (hg : g ∈ grp n) (k : R (f g) m) : ixM (.dI (grp n) ((grp n).map f)) (keyD g) m R E := by
  obtain ⟨i, hi⟩ := List.mem_iff_getElem?.mp hg
  exact ixD_i i hi (by rw [List.getElem?_map, hi]; rfl) k
def wOk (n : Nat) (w : List Int → Int) : Prop := ∀ g, -1000 ≤ w g ∧ w g ≤ 1000
theorem vD_w (w : List Int → Int) : vD n ((grp n).map w) = .dI (grp n) ((grp n).map fun g => .int (w g)) := by simp [vD]
theorem pairs_w (w : List Int → Int) : (grp n).map (fun g => D.tup [keyD g, .int (w g)]) = List.zipWith (fun k (v : Int) => D.tup [keyD k, .int v]) (grp n) ((grp n).map w) := by
  induction grp n with
  | nil => rfl
  | cons k ks ih => simp [ih]
theorem rng_mem_grp (h0 : 1 ≤ n) : rng n ∈ grp n := mem_grp (rng_Gp h0)
theorem grp_in (h5 : n ≤ 5) : ∀ g ∈ grp n, ∀ x ∈ g, 0 ≤ x ∧ x < n := by
  have : ∀ n, n ≤ 5 → ∀ g ∈ grp n, ∀ x ∈ g, (0 : Int) ≤ x ∧ x < n := by decide +kernel
  exact this n h5
theorem iteM_dp {α : Type} {q : Prop} {inst : Decidable q} {x y : M α} {R : α → Led → Prop} (h1 : q) (h2 : x m R E) : iteM (decide q) x y m R E := ⟨fun _ => h2, fun e => absurd h1 (of_decide_eq_false e)⟩
theorem iteM_dn {α : Type} {q : Prop} {inst : Decidable q} {x y : M α} {R : α → Led → Prop} (h1 : ¬ q) (h2 : y m R E) : iteM (decide q) x y m R E := ⟨fun e => absurd (of_decide_eq_true e) h1, fun _ => h2⟩
theorem cut_to {xs : List D} {j : Int} (h : 0 ≤ j) : DL.cutD xs none (some j) = xs.take j.toNat := by
  unfold DL.cutD
  simp only [HT.sIx]
  rw [if_neg (by omega)]
  simp only [List.drop_zero, Nat.sub_zero]
  rcases Nat.le_total j.toNat xs.length with h | h
  · rw [Nat.min_eq_left h]
  · rw [Nat.min_eq_right h, List.take_of_length_le h, List.take_of_length_le (Nat.le_refl _)]
theorem min_u {vs : List Int} {i : Int} (h1 : i ∈ vs) (h2 : ∀ y ∈ vs, i ≤ y) : vs.min?.getD 0 = i := by
  have : vs.min? = some i := List.min?_eq_some_iff.mpr ⟨h1, h2⟩
  rw [this]; rfl
theorem minL_f {vs : List Int} (h0 : 0 < vs.length) (h : R (.int (vs.min?.getD 0)) m) : minM [.lst (vs.map D.int)] m R E := minL_i h0 fun i h1 h2 => by rw [min_u h1 h2] at h; exact h
end


local macro_rules | `(tactic| tm_at "tk") => `(tactic| (refine take_ok (by assumption) (by omega) (by omega) (by omega) (by assumption) ((Bd.lit _).up (by decide)) ?_))
local macro_rules | `(tactic| tm_at "mi") => `(tactic| repeat (first | tm_at "st" | (with_reducible refine iteM_dp (by omega) ?_) | (with_reducible refine iteM_dn (by omega) ?_)))
section
variable {p : Addr} {a c : Int} {ns : List Int} {rest : Led} {R : D → Led → Prop} {E : XR} {n : Nat} {m : Led}
theorem zipWith_ints (xs : List Nat) (vs : List Int) (h : vs.length = xs.length) : List.zipWith (fun (_ : Nat) (v : Int) => D.int v) xs vs = vs.map D.int := by
  induction xs generalizing vs with
  | nil => cases vs with
    | nil => rfl
    | cons v vs => simp at h
  | cons x xs ih => cases vs with
    | nil => simp at h
    | cons v vs => simp [ih vs (by simpa using h)]
theorem zipWith_lists (xs : List Nat) (vs : List (List Int)) (h : vs.length = xs.length) : List.zipWith (fun (_ : Nat) (v : List Int) => D.lst (v.map D.int)) xs vs = vs.map fun v => D.lst (v.map D.int) := by
  induction xs generalizing vs with
  | nil => cases vs with
    | nil => rfl
    | cons v vs => simp at h
  | cons x xs ih => cases vs with
    | nil => simp at h
    | cons v vs => simp [ih vs (by simpa using h)]
theorem sum_bd {l : List Int} {b : Int} (hb : ∀ x ∈ l, 0 ≤ x ∧ x ≤ b) : 0 ≤ l.sum ∧ l.sum ≤ b * (l.length : Int) := by
  induction l with
  | nil => simp
  | cons x l ih =>
    have h1 := hb x (by simp)
    have h2 := ih fun y hy => hb y (by simp [hy])
    simp only [List.sum_cons, List.length_cons]
    have : b * ((l.length + 1 : Nat) : Int) = b * (l.length : Int) + b := by rw [Int.natCast_succ, Int.mul_add, Int.mul_one]
    omega
theorem law_worths_ok (hn : ns.length ≤ 63) (h0 : 1 ≤ n) (h5 : n ≤ 5) (ha : 0 ≤ a) (ha2 : a ≤ 800000) (hc : 0 ≤ c)
    (k : ∀ (w : List Int → Int) (a' c' : Int), wOk n w → a ≤ a' → a' ≤ a + 100 → 0 ≤ c' → R (wD n w) [(p, poolO a' c' ns)]) : m_law_worths [.ref p, .int (n : Int)] [(p, poolO a c ns)] R E := by
  unfold m_law_worths; tm_at "en"; unfold b_law_worths
  obtain ⟨s1, s2⟩ := grp_small n h5
  tm_at "mm"
  tm_at "tk"
  intro r a1 c1 h1 h2 h3 h4 h6
  have hz : ∃ s : Int, 0 < s ∧ s ≤ 1000 ∧ atI [D.int 2, D.int 9, D.int 1000] r = some (.int s) := by
    have hr : r = 0 ∨ r = 1 ∨ r = 2 := by omega
    rcases hr with rfl | rfl | rfl
    · exact ⟨_, by decide, by decide, atI_0⟩
    · exact ⟨_, by decide, by decide, atI_1⟩
    · exact ⟨_, by decide, by decide, atI_2⟩
  obtain ⟨most, m0, m1, hz⟩ := hz
  have Bm : Bd 10 most := by unfold Bd; omega
  tm_at "mm"
  refine ixL_i hz ?_
  tm_at "mm"
  tm_at "tk"
  intro kind a2 c2 k1 k2 k3 k4 k5
  tm_at "mm"
  refine any_worths_ok hn h5 m0 m1 (by omega) (by omega) k5 ?_
  intro q vs a3 c3 l1 l2 l3 l4 l5
  have hw := fun_of (grp_nodup n h5) l1.symm
  obtain ⟨w0, e0, p0⟩ := hw
  have w0b := p0 (fun v => -most ≤ v ∧ v ≤ most) ⟨by omega, by omega⟩ l2
  rw [← e0, vD_w]
  have Bw : ∀ g, Bd 10 (w0 g) := fun g => by have := w0b g; unfold Bd; omega
  tm_at "mm"
  by_cases q0 : kind = 0
  · tm_at "mi"
    refine rng_i (by omega) (by omega) ?_
    have en : ((n : Int) + 1).toNat = n + 1 := by omega
    rw [en, rangeD_map]
    tm_at "mm"
    refine comp_pool (e := fun k : Nat => D.int (k : Int)) (g := fun (_ : Nat) (v : Int) => D.int v) (P := fun v => 0 ≤ v ∧ v ≤ 8) (s := 1) (A := 1000000) (rest := [(q, MO.dI (grp n) (List.map (fun g => D.int (w0 g)) (grp n)))]) _ _ a3 c3 (by omega) (by simp; omega) l5 (fun g hg b1 d1 q1 q2 q3 Q hq => ?_) (by simp; omega) fun us a4 c4 u1 u2 u3 u4 u5 => ?_
    · tm_at "mm"
      tm_at "tk"
      intro r4 a5 c5 z1 z2 z3 z4 z5
      tm_at "mm"
      exact hq _ _ _ ⟨z1, by omega⟩ z3 (by omega) z5
    simp only [List.length_range] at u1 u4
    rw [List.nil_append, zipWith_ints _ _ (by simpa using u1)]
    tm_at "mm"
    refine thaw_i 1 rfl ?_
    tm_at "mm"
    refine comp_map (e := keyD) (g := fun g => D.tup [keyD g, .int ((us.take (g.length + 1)).sum)]) _ _ (fun g hg Q hq => ?_) (by simp; omega) ?_
    · have gl := s2 g hg
      tm_at "mm"
      refine len_T ?_
      tm_at "mm"
      rw [cut_to (by omega), ← List.map_take]
      refine sum_L ?_
      tm_at "mm"
      have e1 : (((List.map D.int g).length : Int) + 1).toNat = g.length + 1 := by simp
      rw [e1]
      exact hq
    tm_at "mm"
    refine ⟨noD_prs _ _, noDL_1, ?_⟩
    tm_at "mm"
    rw [List.nil_append, pairs_w fun g => (us.take (g.length + 1)).sum]
    refine dict_vs h5 (by simp) fun q2 => ?_
    rw [vD_w]
    tm_at "mi"
    refine trg_i (by omega) (by omega) ?_
    tm_at "mm"
    rw [decide_eq_false (show ¬ 2 < kind by omega)]
    tm_at "mm"
    refine frzD_i 2 rfl ?_
    tm_at "mm"
    refine fnR_rt ?_
    refine k (fun g => (us.take (g.length + 1)).sum) a4 c4 (fun g => ?_) (by omega) (by omega) u5
    have h7 := sum_bd (l := us.take (g.length + 1)) (b := 8) fun x hx => u2 x (List.mem_of_mem_take hx)
    have h8 : (us.take (g.length + 1)).length ≤ n + 1 := by rw [List.length_take]; omega
    show -1000 ≤ (us.take (g.length + 1)).sum ∧ (us.take (g.length + 1)).sum ≤ 1000
    omega
  by_cases q1 : kind = 1
  · tm_at "mi"
    refine rng_i (by omega) (by omega) ?_
    rw [rangeD_map]
    tm_at "mm"
    refine comp_pool (β := List Int) (e := fun k : Nat => D.int (k : Int)) (g := fun (_ : Nat) (v : List Int) => D.lst (v.map D.int)) (P := fun v => v.length = n ∧ ∀ x ∈ v, -most ≤ x ∧ x ≤ most) (s := 5) (A := 900000) (rest := [(q, MO.dI (grp n) (List.map (fun g => D.int (w0 g)) (grp n)))]) _ _ a3 c3 (by omega) (by simp; omega) l5 (fun g hg b1 d1 q1 q2 q3 Q hq => ?_) (by simp) fun us a4 c4 u1 u2 u3 u4 u5 => ?_
    · tm_at "mm"
      refine rng_i (by omega) (by omega) ?_
      rw [Int.toNat_natCast, rangeD_map]
      tm_at "mm"
      refine comp_pool (e := fun k : Nat => D.int (k : Int)) (g := fun (_ : Nat) (v : Int) => D.int v) (P := fun v => -most ≤ v ∧ v ≤ most) (s := 1) (A := 1000000) (rest := [(q, MO.dI (grp n) (List.map (fun g => D.int (w0 g)) (grp n)))]) _ _ b1 d1 (by omega) (by simp; omega) q3 (fun g hg b1 d1 q1 q2 q3 Q hq => ?_) (by simp; omega) fun us a4 c4 u1 u2 u3 u4 u5 => ?_
      · tm_at "mm"
        refine take_ok hn (by omega) q1 q2 q3 ((show Bd 12 (2 * most + 1) by unfold Bd; omega).up (by decide)) ?_
        intro r4 a5 c5 z1 z2 z3 z4 z5
        tm_at "mm"
        exact hq _ _ _ ⟨by omega, by omega⟩ z3 (by omega) z5
      · simp only [List.length_range] at u1 u4
        rw [List.nil_append, zipWith_ints _ _ (by simpa using u1)]
        tm_at "mm"
        exact hq _ _ _ ⟨u1, u2⟩ u3 (by omega) u5
    rw [List.nil_append, zipWith_lists _ _ u1]
    simp only [List.length_range] at u1 u4
    have u1' : us.length = 3 := by simpa using u1
    tm_at "mm"
    refine thaw_i 1 rfl ?_
    tm_at "mm"
    refine comp_map (e := keyD) (g := fun g => D.tup [keyD g, .int ((us.map fun v => (g.map fun x => v.getD x.toNat 0).sum).min?.getD 0)]) _ _ (fun g hg Q hq => ?_) (by simp; omega) ?_
    · have gl := s2 g hg
      tm_at "mm"
      refine comp_map (e := fun v : List Int => D.lst (v.map D.int)) (g := fun v : List Int => D.int ((g.map fun x => v.getD x.toNat 0).sum)) _ _ (fun v hv Q hq => ?_) (by simp; omega) ?_
      · have vl := u2 v hv
        tm_at "mm"
        refine law_sum_ok (by omega) (fun x hx => by rw [vl.1]; exact grp_in h5 g hg x hx) ?_
        tm_at "mm"
        exact hq
      tm_at "mm"
      have e : us.map (fun v => D.int ((g.map fun x : Int => v.getD x.toNat 0).sum)) = (us.map fun v => (g.map fun x : Int => v.getD x.toNat 0).sum).map D.int := by simp
      rw [List.nil_append, e]
      refine minL_f (by simp; omega) ?_
      tm_at "mm"
      exact hq
    tm_at "mm"
    refine ⟨noD_prs _ _, noDL_1, ?_⟩
    tm_at "mm"
    rw [List.nil_append, pairs_w fun g => (us.map fun v => (g.map fun x => v.getD x.toNat 0).sum).min?.getD 0]
    generalize (fun g : List Int => (us.map fun v => (g.map fun x => v.getD x.toNat 0).sum).min?.getD 0) = w1
    refine dict_vs h5 (by simp) fun q2 => ?_
    rw [vD_w]
    tm_at "mi"
    refine thaw_i 2 rfl ?_
    tm_at "mm"
    refine comp_map (e := keyD) (g := fun g => D.tup [keyD g, .int (max (-1000) (min 1000 (w1 g)))]) _ _ (fun g hg Q hq => ?_) (by simp; omega) ?_
    · tm_at "mm"
      refine ix_vs hg ?_
      tm_at "mm"
      exact hq
    tm_at "mm"
    refine ⟨noD_prs _ _, by rw [← vD_w w0]; exact noDL_2, ?_⟩
    tm_at "mm"
    rw [List.nil_append, pairs_w fun g => max (-1000) (min 1000 (w1 g))]
    refine dict_vs h5 (by simp) fun q3 => ?_
    rw [vD_w]
    tm_at "mi"
    refine trg_i (by omega) (by omega) ?_
    tm_at "mm"
    rw [decide_eq_false (show ¬ 2 < kind by omega)]
    tm_at "mm"
    refine frzD_i 3 rfl ?_
    tm_at "mm"
    refine fnR_rt ?_
    refine k (fun g => max (-1000) (min 1000 (w1 g))) a4 c4 (fun g => (show -1000 ≤ max (-1000) (min 1000 (w1 g)) ∧ max (-1000) (min 1000 (w1 g)) ≤ 1000 by omega)) (by omega) (by omega) u5
  by_cases q2 : kind = 2
  · tm_at "mi"
    refine thaw_i 1 rfl ?_
    tm_at "mm"
    refine comp_map (e := keyD) (g := fun g => D.tup [keyD g, .int (w0 g * (if decide (1 < (g.length : Int)) = true then 1 else 0))]) _ _ (fun g hg Q hq => ?_) (by simp; omega) ?_
    · have gl := s2 g hg
      have B1 := Bw g
      have B2 : Bd 10 (if decide (1 < ((g.map D.int).length : Int)) = true then 1 else 0 : Int) := by unfold Bd; split <;> decide
      tm_at "mm"
      refine ix_vs hg ?_
      tm_at "mm"
      refine len_T ?_
      tm_at "mm"
      simp only [List.length_map]
      exact hq
    tm_at "mm"
    refine ⟨noD_prs _ _, noDL_1, ?_⟩
    tm_at "mm"
    rw [List.nil_append, pairs_w fun g => w0 g * (if decide (1 < (g.length : Int)) = true then 1 else 0)]
    refine dict_vs h5 (by simp) fun q2 => ?_
    rw [vD_w]
    tm_at "mi"
    refine trg_i (by omega) (by omega) ?_
    tm_at "mm"
    rw [decide_eq_false (show ¬ 2 < kind by omega)]
    tm_at "mm"
    refine frzD_i 2 rfl ?_
    tm_at "mm"
    refine fnR_rt ?_
    refine k (fun g => w0 g * (if decide (1 < (g.length : Int)) = true then 1 else 0)) a3 c3 (fun g => ?_) (by omega) (by omega) l5
    have := w0b g
    show -1000 ≤ w0 g * (if decide (1 < (g.length : Int)) = true then 1 else 0) ∧ w0 g * (if decide (1 < (g.length : Int)) = true then 1 else 0) ≤ 1000
    split <;> omega
  · tm_at "mi"
    refine trg_i (by omega) (by omega) ?_
    rw [Int.toNat_natCast, rng_D]
    tm_at "mm"
    rw [decide_eq_true (show 2 < kind by omega)]
    tm_at "mm"
    refine iteM_dec (fun z1 => ?_) (fun z1 => ?_)
    · tm_at "mm"
      refine thaw_i 1 rfl ?_
      tm_at "mm"
      refine comp_map (e := keyD) (g := fun g => D.int (w0 g)) _ _ (fun g hg Q hq => ?_) (by simp; omega) ?_
      · tm_at "mm"
        refine ix_vs hg ?_
        tm_at "mm"
        exact hq
      have e : (grp n).map (fun g => D.int (w0 g)) = ((grp n).map w0).map D.int := by simp
      tm_at "mm"
      rw [List.nil_append, e]
      refine ⟨noD_ints _, noDL_1, ?_⟩
      tm_at "mm"
      have gr := rng_mem_grp h0
      obtain ⟨gi, hgi⟩ := List.mem_iff_getElem?.mp gr
      refine maxL_i (by rw [List.length_map]; exact List.length_pos_of_mem gr) fun i _ _ => ?_
      tm_at "mm"
      tm_at "tk"
      intro r4 a4 c4 y1 y2 y3 y4 y5
      tm_at "mm"
      rw [← e]
      refine stD_i 1 gi rfl (by omega) hgi ?_
      tm_at "mm"
      refine frzD_i 1 rfl ?_
      tm_at "mm"
      refine fnR_rt ?_
      have ev : ((grp n).map fun g => D.int (w0 g)).set gi (D.int (max 0 (min 1000 (i + r4)))) = (((grp n).map w0).set gi (max 0 (min 1000 (i + r4)))).map D.int := by rw [List.map_set, List.map_map]; rfl
      rw [ev]
      obtain ⟨w1, e1, p1⟩ := fun_of (vs := ((grp n).map w0).set gi (max 0 (min 1000 (i + r4)))) (grp_nodup n h5) (by simp)
      have := k w1 a4 c4 (p1 (fun v => -1000 ≤ v ∧ v ≤ 1000) ⟨by decide, by decide⟩ fun v hv => ?_) (by omega) (by omega) y5
      · unfold wD at this
        rw [show (grp n).map (fun g => D.int (w1 g)) = ((grp n).map w1).map D.int by simp, e1] at this
        exact this
      · rcases List.mem_or_eq_of_mem_set hv with h | rfl
        · obtain ⟨g, _, rfl⟩ := List.mem_map.mp h
          have := w0b g
          omega
        · omega
    · tm_at "mm"
      refine frzD_i 1 rfl ?_
      tm_at "mm"
      refine fnR_rt ?_
      exact k w0 a3 c3 (fun g => by have := w0b g; omega) (by omega) (by omega) l5
end


def chO (n : Nat) (o : Option (List (List Int))) : List (List Int) := (grp n).filter fun g => (match o with
  | none => true
  | some os => decide (g ∈ os)) && !decide (g = rng n)
def OnlyV (d : D) (o : Option (List (List Int))) : Prop := (d = .non ∧ o = none) ∨ ∃ os, o = some os ∧ Seq d (os.map keyD)

section
variable {R : D → Led → Prop} {E : XR} {n : Nat} {m : Led} {w : List Int → Int} {d : D}
def Pl (x : D) : Prop := (∃ i, x = .int i) ∨ (∃ b, x = .bl b) ∨ x = .non ∨ ∃ z, x = .str z
def isI : D → Bool
  | .int _ => true
  | _ => false
theorem is_integer_P {x : D} (h : Pl x) (k : R (.bl (isI x)) m) : m_is_integer [x] m R E := by
  unfold m_is_integer; tm_at "en"; unfold b_is_integer
  rcases h with ⟨i, rfl⟩ | ⟨b, rfl⟩ | rfl | ⟨z, rfl⟩
  · tm_at "mm"; exact k
  · tm_at "mm"; exact k
  · tm_at "mm"; exact k
  · tm_at "mm"; exact k
theorem are_integers_S {ds : List D} (hd : Seq d ds) (hl : ds.length ≤ 1000) (hp : ∀ x ∈ ds, Pl x) (k : R (.bl (ds.all isI)) m) : m_are_integers [d] m R E := by
  unfold m_are_integers; tm_at "en"; unfold b_are_integers
  have key : ∀ {Q : List D → Led → Prop}, Q (ds.map fun x => D.bl (isI x)) m → ∀ (E : XR), compM (fun v_item_1 => bnd (bnd (bnd (DL.ret v_item_1) fun d2 => bnd (DL.ret []) fun ds3 => DL.ret (d2 :: ds3)) m_is_integer) someM) ds [] m Q E := by
    intro Q hq E
    have := comp_map (m := m) (E := E) (R := Q) (e := id) (g := fun x => D.bl (isI x)) ds [] (f := (fun v_item_1 => bnd (bnd (bnd (DL.ret v_item_1) fun d2 => bnd (DL.ret []) fun ds3 => DL.ret (d2 :: ds3)) m_is_integer) someM)) (fun x hx Q hq => ?_) (by simp; omega) (by simpa using hq)
    · simpa using this
    · tm_at "mm"
      refine is_integer_P (hp x hx) ?_
      tm_at "mm"
      exact hq
  have e : ds.map (fun x => D.bl (isI x)) = (ds.map isI).map D.bl := by simp
  have e2 : ((ds.map isI).all id) = ds.all isI := by simp [List.all_map]
  rcases hd with rfl | rfl
  · tm_at "mm"
    refine key ?_ _
    tm_at "mm"
    rw [e]
    refine all_L ?_
    tm_at "mm"
    rw [e2]
    exact k
  · tm_at "mm"
    refine key ?_ _
    tm_at "mm"
    rw [e]
    refine all_L ?_
    tm_at "mm"
    rw [e2]
    exact k
end

local macro_rules | `(tactic| tm_at "mi") => `(tactic| repeat (first | tm_at "st" | (with_reducible refine iteM_dp (by omega) ?_) | (with_reducible refine iteM_dn (by omega) ?_)))
section
variable {p : Addr} {a c : Int} {ns : List Int} {rest : Led} {R : D → Led → Prop} {E : XR} {n : Nat} {m : Led} {w : List Int → Int}
theorem worths_ok (h5 : n ≤ 5) (k : R (wD n w) m) : m_Game_worths [gameD n w] m R E := by
  unfold m_Game_worths; tm_at "en"; unfold b_Game_worths gameD
  tm_at "mm"
  refine dictD_f (.inl rfl) (grp_hash n h5) ?_
  tm_at "mm"
  exact k
end

local macro_rules | `(tactic| tm_at "mi") => `(tactic| repeat (first | tm_at "st" | (with_reducible refine iteM_dp (by omega) ?_) | (with_reducible refine iteM_dn (by omega) ?_)))
section
variable {p : Addr} {a c : Int} {ns : List Int} {rest : Led} {R : D → Led → Prop} {E : XR} {n : Nat} {m : Led} {w : List Int → Int}
theorem getitem_ok {g : List Int} (h5 : n ≤ 5) (hg : g ∈ grp n) (k : R (.int (w g)) m) : m_Game___getitem__ [gameD n w, keyD g] m R E := by
  unfold m_Game___getitem__; tm_at "en"; unfold b_Game___getitem__
  have gl := (grp_small n h5).2 g hg
  unfold gameD
  tm_at "mm"
  refine is_group_T (by omega) ?_
  rw [isG_grp n h5 g hg]
  tm_at "mm"
  refine ix_w hg ?_
  tm_at "mm"
  exact k
end

section
variable {R : D → Led → Prop} {E : XR} {n : Nat} {m : Led} {w : List Int → Int} {d : D} {RB : Bool → Led → Prop}
theorem eqD_refl {a : D} (h : Sh 20 a) : eqD a a = true := SeqAt.eqv_refl_plain _ h.ok.1
theorem ne_rf {a : D} (h : Sh 20 a) (k : RB false m) : cmpB .NotEq a a m RB E := .inl ⟨a, a, .now _, .now _, h, h, by rw [eqD_refl h]; exact k⟩
def PlL (x : D) : Prop := Pl x ∨ ∃ ds, x = .lst ds
theorem is_integer_L {x : D} (h : PlL x) (k : R (.bl (isI x)) m) : m_is_integer [x] m R E := by
  rcases h with h | ⟨ds, rfl⟩
  · exact is_integer_P h k
  · unfold m_is_integer; tm_at "en"; unfold b_is_integer
    tm_at "mm"; exact k
theorem are_integers_L {ds : List D} (hd : Seq d ds) (hl : ds.length ≤ 1000) (hp : ∀ x ∈ ds, PlL x) (k : R (.bl (ds.all isI)) m) : m_are_integers [d] m R E := by
  unfold m_are_integers; tm_at "en"; unfold b_are_integers
  have key : ∀ {Q : List D → Led → Prop}, Q (ds.map fun x => D.bl (isI x)) m → ∀ (E : XR), compM (fun v_item_1 => bnd (bnd (bnd (DL.ret v_item_1) fun d2 => bnd (DL.ret []) fun ds3 => DL.ret (d2 :: ds3)) m_is_integer) someM) ds [] m Q E := by
    intro Q hq E
    have := comp_map (m := m) (E := E) (R := Q) (e := id) (g := fun x => D.bl (isI x)) ds [] (f := (fun v_item_1 => bnd (bnd (bnd (DL.ret v_item_1) fun d2 => bnd (DL.ret []) fun ds3 => DL.ret (d2 :: ds3)) m_is_integer) someM)) (fun x hx Q hq => ?_) (by simp; omega) (by simpa using hq)
    · simpa using this
    · tm_at "mm"
      refine is_integer_L (hp x hx) ?_
      tm_at "mm"
      exact hq
  have e : ds.map (fun x => D.bl (isI x)) = (ds.map isI).map D.bl := by simp
  have e2 : ((ds.map isI).all id) = ds.all isI := by simp [List.all_map]
  rcases hd with rfl | rfl
  · tm_at "mm"
    refine key ?_ _
    tm_at "mm"
    rw [e]
    refine all_L ?_
    tm_at "mm"
    rw [e2]
    exact k
  · tm_at "mm"
    refine key ?_ _
    tm_at "mm"
    rw [e]
    refine all_L ?_
    tm_at "mm"
    rw [e2]
    exact k
def BG (n : Nat) (d : D) : Prop := PlL d ∨ d = .tup [] ∨ (∃ ds, d = .tup ds ∧ ds.length ≤ 1000 ∧ (∀ x ∈ ds, PlL x) ∧ ds.all isI = false) ∨ ∃ g, d = keyD g ∧ g.length ≤ 1000 ∧ isG n g = false
theorem is_group_no (h : BG n d) (k : R (.bl false) m) : m_is_group [.int (n : Int), d] m R E := by
  rcases h with h | rfl | ⟨ds, rfl, hl, hp, ha⟩ | ⟨g, rfl, hl, hg⟩
  · unfold m_is_group; tm_at "en"; unfold b_is_group
    rcases h with (⟨i, rfl⟩ | ⟨b, rfl⟩ | rfl | ⟨z, rfl⟩) | ⟨ds, rfl⟩
    all_goals
      tm_at "mm"
      exact k
  · unfold m_is_group; tm_at "en"; unfold b_is_group
    tm_at "mm"
    rw [show decide (((([] : List D).length : Nat) : Int) = 0) = true from rfl]
    tm_at "mm"
    exact k
  · unfold m_is_group; tm_at "en"; unfold b_is_group
    tm_at "mm"
    by_cases h0 : ds.length = 0
    · rw [decide_eq_true (by omega)]
      tm_at "mm"
      exact k
    · rw [decide_eq_false (by omega)]
      tm_at "mm"
      refine are_integers_L (.inr rfl) hl hp ?_
      rw [ha]
      tm_at "mm"
      exact k
  · refine is_group_T hl ?_
    rw [hg]
    exact k
end

def wM (n : Nat) (w : List Int → Int) : MO := .dI (grp n) ((grp n).map fun g => .int (w g))
def upW (w : List Int → Int) (g : List Int) (v : Int) : List Int → Int := fun x => if x = g then v else w x
section
variable {E : XR} {n : Nat} {m : Led} {w : List Int → Int}
end

section
variable {R : D → Led → Prop} {E : XR} {n n' : Nat} {m : Led} {w w' : List Int → Int} {d : D}
theorem obj_game : ObjV m (gameD n w) "Game" gameN (gameV n w) := .inl rfl
theorem isiO_c {cs : List Str} {cn : Str} {ns : List Str} {vs : List D} (hc : cn ∈ cs) (hv : ObjV m d cn ns vs) (k : R (.bl true) m) : isiO cs [d, .cls cn] m R E := ⟨hc, .inr ⟨ns, vs, hv, k⟩⟩
theorem eqW (h5 : n ≤ 5) {RB : Bool → Led → Prop} (k : RB true m) : cmpB .Eq (wD n w) (wD n w) m RB E := by
  refine eqDic_i (.inl rfl) (.inl rfl) (grp_nodup n h5) (by simp) (fun e he => ?_) k
  obtain ⟨g, _, rfl⟩ := List.mem_map.mp he
  exact nb_int _ _
theorem neW (h5 : n ≤ 5) {RB : Bool → Led → Prop} (k : RB false m) : cmpB .NotEq (wD n w) (wD n w) m RB E := by
  refine neDic_i (.inl rfl) (.inl rfl) (grp_nodup n h5) (by simp) (fun e he => ?_) k
  obtain ⟨g, _, rfl⟩ := List.mem_map.mp he
  exact nb_int _ _
theorem eq_ok (h5 : n ≤ 5) (k : R (.bl true) m) : m_Game___eq__ [gameD n w, gameD n w] m R E := by
  unfold m_Game___eq__; tm_at "en"; unfold b_Game___eq__
  tm_at "mm"
  refine isiO_c (by decide) obj_game ?_
  unfold gameD
  tm_at "mm"
  refine eqW h5 ?_
  tm_at "mm"
  exact k
def sumW (as : List Int) (g : List Int) : Int := (g.map fun x => as.getD x.toNat 0).sum
def NoInts (d : D) : Prop := (∃ ds, Seq d ds ∧ ds.length ≤ 1000 ∧ (∀ x ∈ ds, Pl x) ∧ ds.all isI = false) ∨ d = .non ∨ (∃ i, d = .int i) ∨ ∃ z, d = .str z
end


theorem perm_sum {l r : List Int} (h : l.Perm r) : l.sum = r.sum := by
  induction h with
  | nil => rfl
  | cons x _ ih => simp [ih]
  | swap x y l => simp only [List.sum_cons]; omega
  | trans _ _ h1 h2 => exact h1.trans h2
def subL (h g : List Int) : Bool := h.all fun x => decide (x ∈ g)
def DvP (n : Nat) (w d : List Int → Int) : Prop := ∀ g ∈ grp n, w g = ((grp n).map fun h => if subL h g then d h else 0).sum
def seqG (n : Nat) : List (List Int) := (List.range n).flatMap fun s : Nat => (grp n).filter fun g => decide ((g.length : Int) = 1 + (s : Int))
theorem seqG_perm : ∀ n, n ≤ 5 → (seqG n).isPerm (grp n) = true := by decide +kernel
theorem seqG_pw : ∀ n, n ≤ 5 → (seqG n).Pairwise fun a b => subL b a = false := by decide +kernel
theorem subL_self (g : List Int) : subL g g = true := by
  unfold subL
  exact List.all_eq_true.mpr fun x hx => decide_eq_true hx
theorem sum_flt {α : Type} {l : List α} {P : α → Bool} {F : α → Int} : ((l.filter P).map F).sum = (l.map fun x => if P x then F x else 0).sum := by
  induction l with
  | nil => rfl
  | cons x l ih =>
    by_cases h : P x = true
    · rw [List.filter_cons_of_pos h, List.map_cons, List.map_cons, List.sum_cons, List.sum_cons, ih, if_pos h]
    · rw [List.filter_cons_of_neg h, List.map_cons, List.sum_cons, ih, if_neg h, Int.zero_add]
theorem sum_bdL {b : Nat} : ∀ {l : List Int}, (∀ x ∈ l, x.natAbs < 2 ^ b) → l.sum.natAbs ≤ l.length * 2 ^ b
  | [], _ => by simp
  | x :: l, h => by
    have h1 := h x List.mem_cons_self
    have h2 := sum_bdL fun y hy => h y (List.mem_cons_of_mem _ hy)
    rw [List.sum_cons, List.length_cons, Nat.succ_mul]
    omega
theorem sum_bd31 {b : Nat} {l : List Int} (hl : l.length ≤ 31) (h : ∀ x ∈ l, Bd b x) : Bd (b + 5) l.sum := by
  have h1 := sum_bdL h
  have h2 : l.length * 2 ^ b ≤ 31 * 2 ^ b := Nat.mul_le_mul_right _ hl
  have h3 : 0 < 2 ^ b := Nat.pow_pos (by decide)
  unfold Bd
  rw [Nat.pow_add]
  omega
structure DvI (w : List Int → Int) (done : List (List Int)) (f : List Int → Int) : Prop where
  val : ∀ g ∈ done, w g = (done.map fun h => if subL h g then f h else 0).sum
  bd : ∀ g, Bd (14 + 6 * done.length) (f g)
theorem DvI.step {w : List Int → Int} {done : List (List Int)} {f : List Int → Int} {g : List Int} (h : DvI w done f) (hw : Bd 12 (w g)) (hl : done.length ≤ 30) (hn : g ∉ done) (hs : ∀ a ∈ done, subL g a = false) :
    DvI w (done ++ [g]) (fun x => if x = g then w g - (done.map fun h => if subL h g then f h else 0).sum else f x) := by
  have cg : ∀ a : List Int, (done.map fun h => if subL h a then (if h = g then w g - (done.map fun h => if subL h g then f h else 0).sum else f h) else 0) = done.map fun h => if subL h a then f h else 0 := fun a => List.map_congr_left fun x hx => by
    rw [if_neg fun z : x = g => hn (z ▸ hx)]
  refine ⟨fun a ha => ?_, fun a => ?_⟩
  · rw [List.map_append, List.sum_append, cg a]
    rcases List.mem_append.mp ha with q | q
    · have e := h.val a q
      rw [List.map_cons, List.map_nil, hs a q]
      simp
      exact e
    · rw [List.mem_singleton.mp q, List.map_cons, List.map_nil, subL_self]
      simp
      omega
  · show Bd _ (if a = g then _ else f a)
    split
    · have b1 : Bd (14 + 6 * done.length + 5) (done.map fun h => if subL h g then f h else 0).sum := sum_bd31 (by rw [List.length_map]; omega) fun x hx => by
        obtain ⟨y, _, rfl⟩ := List.mem_map.mp hx
        split
        · exact h.bd y
        · unfold Bd
          exact Nat.pow_pos (by decide)
      have b2 := Bd.subR hw b1
      refine b2.up ?_
      simp only [List.length_append, List.length_cons, List.length_nil]
      omega
    · exact (h.bd a).up (by simp; omega)
section
variable {R : D → Led → Prop} {E : XR} {n : Nat} {m : Led} {w : List Int → Int}
theorem iter_gameA {RL : List D → Led → Prop} (k : RL ((grp n).map keyD) m) : iterO "Game" "listed" (gameD n w) m RL E := ⟨_, _, _, .inl rfl, rfl, k⟩
theorem erase_lastA {m : Led} {c : Addr × MO} : (m ++ [c]).eraseIdx m.length = m := by rw [List.eraseIdx_append_of_length_le (Nat.le_refl _), Nat.sub_self]; simp
theorem ixD_fnA {ks : List (List Int)} {vf : List Int → D} {g : List Int} {Q : D → Led → Prop} (hg : g ∈ ks) (k : Q (vf g) m) : ixM (.dI ks (ks.map vf)) (keyD g) m Q E := by
  obtain ⟨i, hi, rfl⟩ := List.mem_iff_getElem.mp hg
  exact ixD_i i (List.getElem?_eq_getElem hi) (by rw [List.getElem?_map, List.getElem?_eq_getElem hi]; rfl) k
theorem noDs_A (l : List (List Int)) (f : List Int → Int) : noDs (l.map fun g => D.int (f g)) = true := by
  induction l with
  | nil => rfl
  | cons x l ih =>
    show (noD (D.int (f x)) && noDs (l.map fun g => D.int (f g))) = true
    rw [ih]
    rfl
theorem stNewA {q : Addr} {ks : List (List Int)} {vs : List D} {k : List Int} {y : D} {R : Unit → Led → Prop} (j : Nat) (hm : m[j]? = some (q, .dI ks vs)) (hl : ks.length < 100000) (hk : k ∉ ks) (h : R () (m.set j (q, .dI (ks ++ [k]) (vs ++ [y])))) : stM (.ref q) (keyD k) y m R E := ⟨j, ks, vs, k, hm, rfl, hl, .inr ⟨hk, h⟩⟩
theorem newD_A (k : ∀ p, R (.ref p) (m ++ [(p, .dI [] [])])) : newDM m R E := k
theorem lies_in_ok {h g : List Int} (hl : h.length ≤ 1000) (k : R (.bl (subL h g)) m) : m_lies_in [keyD h, keyD g] m R E := by
  unfold m_lies_in; tm_at "en"; unfold b_lies_in
  refine fnM_i ?_
  tm_at "bb"
  refine seq_T ?_
  tm_at "bb"
  refine comp_map (e := D.int) (g := fun x => D.bl (decide (x ∈ g))) h [] (fun x hx Q hQ => ?_) (by simp; omega) ?_
  · tm_at "bb"
    refine inSM_i (.inr rfl) ?_
    tm_at "bb"
    exact hQ
  refine lsM_i ?_
  rw [List.nil_append, show (h.map fun x => D.bl (decide (x ∈ g))) = (h.map fun x => decide (x ∈ g)).map D.bl by rw [List.map_map]; rfl]
  tm_at "bb"
  refine all_L ?_
  rw [show ((h.map fun x => decide (x ∈ g)).all id) = subL h g by simp [subL, List.all_map, Function.comp_def]]
  refine rtM_i ?_
  exact fnR_same k
theorem dividends_fr (h0 : 1 ≤ n) (h5 : n ≤ 5) (hw : ∀ g ∈ grp n, Bd 12 (w g)) (nm : noDL m) (k : ∀ q d, DvP n w d → (∀ g, Bd 200 (d g)) → R (.ref q) (m ++ [(q, .dI (grp n) ((grp n).map fun g => .int (d g)))])) : m_dividends [gameD n w] m R E := by
  have hat : ∀ {Q : D → Led → Prop} {E : XR} {m : Led}, Q (.int (n : Int)) m → attM "Game" "players" (gameD n w) m Q E := fun h => att_o rfl h
  obtain ⟨s1, s2⟩ := grp_small n h5
  have pm := List.isPerm_iff.mp (seqG_perm n h5)
  have pw := seqG_pw n h5
  have sl : (seqG n).length ≤ 31 := by rw [pm.length_eq]; exact s1
  have snd : (seqG n).Nodup := pm.symm.nodup_iff.mp (grp_nodup n h5)
  unfold m_dividends; tm_at "en"; unfold b_dividends
  refine fnK_i ?_
  refine newD_A fun q => ?_
  tm_at "bb"
  refine hat ?_
  tm_at "bb"
  refine add_i ?_
  refine ⟨⟨by decide, by decide, by omega, by omega⟩, ?_⟩
  rw [show (((n : Int) + 1 - 1).toNat) = n by omega]
  refine seqF_i ?_
  have er : rangeD 1 n = (List.range n).map fun s : Nat => D.int (1 + (s : Int)) := rfl
  rw [er]
  refine for_ind (e := fun s : Nat => D.int (1 + (s : Int))) (fun xs (s : Unit) m' => ∃ (done : List (List Int)) (f : List Int → Int), m' = m ++ [(q, .dI done (done.map fun g => .int (f g)))] ∧ done ++ (xs.flatMap fun s : Nat => (grp n).filter fun g => decide ((g.length : Int) = 1 + (s : Int))) = seqG n ∧ DvI w done f) ?_ ?_ _ _ _ ⟨[], fun _ => 0, rfl, rfl, ⟨(fun g h => nomatch h), fun g => by unfold Bd; exact Nat.pow_pos (by decide)⟩⟩
  · rintro sz xs s m' ⟨done, f, rfl, ed, di⟩ Q q1 _ _
    tm_at "bb"
    refine iter_gameA ?_
    tm_at "bb"
    refine comp_filter (e := keyD) (g := keyD) (p := fun g => decide ((g.length : Int) = 1 + (sz : Int))) (grp n) [] (fun g hg Q q1 q2 => ?_) (by simp; omega) ?_
    · tm_at "bb"
      refine len_T ?_
      rw [List.length_map]
      tm_at "bb"
      refine eq_i ?_
      refine iteM_i (fun e => ?_) (fun e => ?_)
      · tm_at "bb"
        exact q1 e
      · exact q2 e
    refine lsM_i ?_
    rw [List.nil_append]
    refine seq_L ?_
    refine seqF_i ?_
    rw [List.flatMap_cons] at ed
    refine for_ind (e := keyD) (fun ys (s : Unit) m' => ∃ (done : List (List Int)) (f : List Int → Int), m' = m ++ [(q, .dI done (done.map fun g => .int (f g)))] ∧ done ++ (ys ++ (xs.flatMap fun s : Nat => (grp n).filter fun g => decide ((g.length : Int) = 1 + (s : Int)))) = seqG n ∧ DvI w done f) ?_ ?_ _ _ _ ⟨done, f, rfl, ed, di⟩
    · rintro g ys s m' ⟨done, f, rfl, ed, di⟩ Q q1 _ _
      have hgs : g ∈ seqG n := by rw [← ed]; simp
      have hg : g ∈ grp n := pm.mem_iff.mp hgs
      have dl : done.length ≤ 30 := by
        have := congrArg List.length ed
        simp at this
        omega
      have hnd : g ∉ done := fun z => by
        rw [← ed] at snd
        exact (List.nodup_append.mp snd).2.2 g z g (by simp) rfl
      have hsub : ∀ a ∈ done, subL g a = false := fun a ha => by
        rw [← ed] at pw
        exact (List.pairwise_append.mp pw).2.2 a ha g (by simp)
      have dm : ∀ a ∈ done, a ∈ grp n := fun a ha => pm.mem_iff.mp (by rw [← ed]; exact List.mem_append_left _ ha)
      tm_at "bb"
      refine ixO_o (getitem_ok h5 hg ?_)
      tm_at "bb"
      refine thaw_i m.length get_last ?_
      rw [erase_lastA]
      tm_at "bb"
      refine seq_D ?_
      tm_at "bb"
      refine comp_filter (e := keyD) (g := fun h => D.int (f h)) (p := fun h => subL h g) done [] (fun h hh Q q1 q2 => ?_) (by simp; omega) ?_
      · tm_at "bb"
        refine lies_in_ok (by have := s2 h (dm h hh); omega) ?_
        refine tru_bl ?_
        refine iteM_i (fun e => ?_) (fun e => ?_)
        · tm_at "bb"
          refine ixD_fnA (vf := fun g => D.int (f g)) hh ?_
          tm_at "bb"
          exact q1 e
        · exact q2 e
      refine lsM_i ?_
      rw [List.nil_append]
      refine ⟨noDs_A _ _, nm, ?_⟩
      tm_at "bb"
      rw [show ((done.filter fun h => subL h g).map fun h => D.int (f h)) = ((done.filter fun h => subL h g).map f).map D.int by rw [List.map_map]; rfl]
      refine sum_L ?_
      refine sub_i ?_
      rw [sum_flt]
      tm_at "bb"
      refine stNewA m.length get_last (by omega) hnd ?_
      tm_at "bb"
      refine q1 _ _ ⟨done ++ [g], _, ?_, by simpa using ed, di.step (hw g hg) dl hnd hsub⟩
      have e9 : (done ++ [g]).map (fun x => D.int (if x = g then w g - (done.map fun h => if subL h g then f h else 0).sum else f x)) = done.map (fun x => D.int (f x)) ++ [D.int (w g - (done.map fun h => if subL h g then f h else 0).sum)] := by
        rw [List.map_append]
        congr 1
        · refine List.map_congr_left fun x hx => ?_
          rw [if_neg fun z : x = g => hnd (z ▸ hx)]
        · simp
      rw [e9]
      simp
    · rintro s m' ⟨done, f, rfl, ed, di⟩
      rw [List.nil_append] at ed
      refine seqK_nx ?_
      refine ret_i ?_
      exact q1 _ _ ⟨done, f, rfl, ed, di⟩
  · rintro s m' ⟨done, f, rfl, ed, di⟩
    rw [List.flatMap_nil, List.append_nil] at ed
    refine seqK_nx ?_
    tm_at "bb"
    refine frzD_i m.length get_last ?_
    rw [erase_lastA]
    tm_at "bb"
    refine iter_gameA ?_
    tm_at "bb"
    have dm : ∀ a ∈ grp n, a ∈ done := fun a ha => by rw [ed]; exact pm.mem_iff.mpr ha
    refine dc_map (g := fun g => D.int (f g)) (grp n) (grp_nodup n h5) (by omega) (fun g hg Q hQ => ?_) ?_
    · tm_at "bb"
      refine ixD_fnA (vf := fun g => D.int (f g)) (dm g hg) ?_
      refine pairM_i ?_
      exact hQ
    refine dicG_t fun q2 => ?_
    refine rtM_i ?_
    refine fnRK_i ?_
    refine k q2 f (fun g hg => ?_) fun g => (di.bd g).up (by rw [ed]; omega)
    rw [di.val g (dm g hg), ed]
    exact perm_sum (pm.map _)
end


section
variable {m : Led} {R : D → Led → Prop} {E : XR} {n : Nat}
end
section
variable {m : Led} {R : D → Led → Prop} {E : XR} {n : Nat}
theorem dict_loop {f : List Int → Int} {F : D → Unit → M (Fl Unit Unit)} {R : Fl Unit Empty → Led → Prop} {q : Addr} (hF : ∀ g ∈ grp n, ∀ (ks : List (List Int)) (vs : List D), g ∉ ks → ks.length ≤ 31 → ∀ Q : Fl Unit Unit → Led → Prop, Q (.nx ()) (m ++ [(q, .dI (ks ++ [g]) (vs ++ [.int (f g)]))]) → F (keyD g) () (m ++ [(q, .dI ks vs)]) Q E)
    (h5 : n ≤ 5) (k : R (.nx ()) (m ++ [(q, .dI (grp n) ((grp n).map fun g => .int (f g)))])) : forF F ((grp n).map keyD) () (m ++ [(q, .dI [] [])]) R E := by
  have nd := grp_nodup n h5
  have hl := (grp_small n h5).1
  refine for_ind (e := keyD) (fun xs (s : Unit) m' => ∃ done, done ++ xs = grp n ∧ m' = m ++ [(q, .dI done (done.map fun g => .int (f g)))]) ?_ ?_ _ _ _ ⟨[], rfl, rfl⟩
  · rintro g xs s m' ⟨done, e, rfl⟩ Q q1 _ _
    have hm : g ∈ grp n := by rw [← e]; simp
    refine hF g hm done _ ?_ ?_ Q (q1 _ _ ⟨done ++ [g], by simpa using e, by simp⟩)
    · rw [← e] at nd
      intro z
      exact (List.nodup_append.mp nd).2.2 g z g (by simp) rfl
    · have := congrArg List.length e
      simp at this
      omega
  · rintro s m' ⟨done, e, rfl⟩
    rw [List.append_nil] at e
    subst e
    exact k
end

def shD (ks : List (List Int)) (f : List Int → Int) : D := .dI ks (ks.map fun g => D.int (f g))
def smW (ks : List (List Int)) (f : List Int → Int) (g : List Int) : Int := (ks.map fun h => if subL h g then f h else 0).sum
structure ShOk (n : Nat) (ks : List (List Int)) : Prop where
  sub : ∀ g ∈ ks, g ∈ grp n
  nd : ks.Nodup
theorem ShOk.perm {n : Nat} {ks : List (List Int)} (h5 : n ≤ 5) (h : ShOk n ks) : ((grp n).filter fun g => decide (g ∈ ks)).Perm ks :=
  (List.perm_ext_iff_of_nodup ((grp_nodup n h5).filter _) h.nd).mpr fun g => by
    rw [List.mem_filter, decide_eq_true_iff]
    exact ⟨fun z => z.2, fun z => ⟨h.sub g z, z⟩⟩
theorem ShOk.len {n : Nat} {ks : List (List Int)} (h5 : n ≤ 5) (h : ShOk n ks) : ks.length ≤ (grp n).length := by
  rw [← (h.perm h5).length_eq]
  exact List.length_filter_le ..
section
variable {R : D → Led → Prop} {E : XR} {n : Nat} {m rest : Led} {w f : List Int → Int} {d : D} {ks : List (List Int)} {RB : Bool → Led → Prop}
theorem ShOk.small (h : ShOk n ks) (h5 : n ≤ 5) : ks.length ≤ 31 := by
  have h1 := h.len h5
  have h2 := (grp_small n h5).1
  omega
theorem ixD_sh {g : List Int} (hg : g ∈ ks) (k : R (.int (f g)) m) : ixM (shD ks f) (keyD g) m R E := ixD_fnA (vf := fun g => D.int (f g)) hg k
theorem law_inside_ok {h g : List Int} (hl : h.length ≤ 1000) (k : R (.bl (subL h g)) m) : m_law_inside [keyD h, keyD g] m R E := by
  unfold m_law_inside; tm_at "en"; unfold b_law_inside
  tm_at "mm"
  refine seq_T ?_
  tm_at "mm"
  refine comp_filter (e := D.int) (g := D.int) (p := fun x => !decide (x ∈ g)) h [] (fun x hx Q q1 q2 => ?_) (by simp; omega) ?_
  · tm_at "mm"
    refine ⟨x, g, rfl, .inr rfl, ?_⟩
    rw [if_pos rfl]
    refine iteM_i (fun e => ?_) (fun e => ?_)
    · tm_at "mm"
      exact q1 e
    · tm_at "mm"
      exact q2 e
  tm_at "mm"
  rw [List.nil_append]
  refine .inl ⟨_, _, .now _, .now _, ?_, ?_, ?_⟩
  · exact fun x hx => by
      obtain ⟨y, _, rfl⟩ := List.mem_map.mp hx
      trivial
  · exact fun x hx => nomatch hx
  have e : eqD (.lst ((h.filter fun x => !decide (x ∈ g)).map D.int)) (.lst []) = subL h g := by
    rw [show eqD (.lst ((h.filter fun x => !decide (x ∈ g)).map D.int)) (.lst []) = ((h.filter fun x => !decide (x ∈ g)).map D.int).isEmpty by cases ((h.filter fun x => !decide (x ∈ g)).map D.int) <;> rfl]
    unfold subL
    rw [Bool.eq_iff_iff, List.isEmpty_iff, List.map_eq_nil_iff, List.filter_eq_nil_iff, List.all_eq_true]
    constructor
    · intro q x hx
      have := q x hx
      simpa using this
    · intro q x hx
      have := q x hx
      simpa using this
  rw [e]
  tm_at "mm"
  exact k
theorem sums_row (h5 : n ≤ 5) (s : ShOk n ks) {g : List Int} {Q : D → Led → Prop} (q : Q (.int (smW ks f g)) m) : sumM [.lst ((ks.filter fun h => subL h g).map fun h => D.int (f h))] m Q E := by
  rw [show ((ks.filter fun h => subL h g).map fun h => D.int (f h)) = ((ks.filter fun h => subL h g).map f).map D.int by rw [List.map_map]; rfl]
  refine sum_L ?_
  rw [sum_flt]
  exact q
theorem law_sums_ok (h5 : n ≤ 5) (s : ShOk n ks) (k : R (wD n (smW ks f)) m) : m_law_sums [.int (n : Int), shD ks f] m R E := by
  obtain ⟨s1, s2⟩ := grp_small n h5
  have hl := s.small h5
  unfold m_law_sums; tm_at "en"; unfold b_law_sums
  tm_at "mm"
  refine newD_A fun q => ?_
  tm_at "mm"
  refine law_groups_ok h5 ?_
  tm_at "mm"
  refine dict_loop (f := smW ks f) (fun g hg k2 v2 hn hl2 Q q1 => ?_) h5 ?_
  · tm_at "mm"
    refine seq_D ?_
    tm_at "mm"
    refine comp_filter (e := keyD) (g := fun h => D.int (f h)) (p := fun h => subL h g) ks [] (fun h hh Q q1 q2 => ?_) (by simp; omega) ?_
    · tm_at "mm"
      refine law_inside_ok (by have := s2 h (s.sub h hh); omega) ?_
      refine tru_bl ?_
      refine iteM_i (fun e => ?_) (fun e => ?_)
      · tm_at "mm"
        refine ixD_sh hh ?_
        tm_at "mm"
        exact q1 e
      · tm_at "mm"
        exact q2 e
    tm_at "mm"
    rw [List.nil_append]
    refine sums_row h5 s ?_
    tm_at "mm"
    refine stNewA m.length get_last (by omega) hn ?_
    rw [show (m ++ [(q, MO.dI k2 v2)]).set m.length (q, MO.dI (k2 ++ [g]) (v2 ++ [D.int (smW ks f g)])) = m ++ [(q, MO.dI (k2 ++ [g]) (v2 ++ [D.int (smW ks f g)]))] by simp]
    tm_at "mm"
    exact q1
  · tm_at "mm"
    refine frzD_i m.length get_last ?_
    rw [erase_lastA]
    tm_at "mm"
    exact k
end


section
variable {R : D → Led → Prop} {E : XR} {n : Nat} {m : Led} {P : D}
theorem zip_keysA {gs : List (List Int)} {F : List Int → D} : zipD (gs.map keyD) (gs.map F) = gs.map fun g => .tup [keyD g, F g] := by
  induction gs with
  | nil => rfl
  | cons g gs ih => simp only [List.map_cons, zipD, ih]
theorem comp_id {f : D → M (Option D)} {g : D → D} {R : List D → Led → Prop} (xs : List D) (hf : ∀ x ∈ xs, ∀ Q : Option D → Led → Prop, Q (some (g x)) m → f x m Q NoX) (hl : xs.length ≤ 100000) (h : R (xs.map g) m) : compM f xs [] m R E := by
  have := comp_map (m := m) (E := E) (R := R) (e := id) (g := g) xs [] (f := f) (fun x hx Q hq => hf x hx Q hq) (by simp; omega) (by simpa using h)
  simpa using this
def BadP (P : D) : Prop := P = .int 0 ∨ P = .int 6 ∨ P = .int (-1) ∨ P = .bl true ∨ P = .non ∨ P = .str "2" ∨ P = .int (2 + 10 ^ 20)
theorem check_players_no (h : BadP P) (q : E "BadPlayers" none m) : m_check_players [P] m R E := by
  unfold m_check_players; tm_at "en"; unfold b_check_players
  tm_at "mm"
  rcases h with rfl | rfl | rfl | rfl | rfl | rfl | rfl
  · refine is_integer_int ?_
    tm_at "mm"
    refine chainB_i (fun e => absurd (of_decide_eq_true e) (by decide)) (fun _ => ?_)
    tm_at "mm"
    rw [List.take_length]
    exact q
  · refine is_integer_int ?_
    tm_at "mm"
    refine chainB_i (fun _ => ?_) (fun e => absurd (of_decide_eq_false e) (by decide))
    tm_at "mm"
    show cmpB _ _ (.int 5) _ _ _
    tm_at "mm"
    rw [show decide ((6 : Int) ≤ 5) = false from rfl]
    tm_at "mm"
    rw [List.take_length]
    exact q
  · refine is_integer_int ?_
    tm_at "mm"
    refine chainB_i (fun e => absurd (of_decide_eq_true e) (by decide)) (fun _ => ?_)
    tm_at "mm"
    rw [List.take_length]
    exact q
  · refine is_integer_P (.inr (.inl ⟨_, rfl⟩)) ?_
    rw [show isI (.bl true) = false from rfl]
    tm_at "mm"
    rw [List.take_length]
    exact q
  · refine is_integer_P (.inr (.inr (.inl rfl))) ?_
    rw [show isI .non = false from rfl]
    tm_at "mm"
    rw [List.take_length]
    exact q
  · refine is_integer_P (.inr (.inr (.inr ⟨_, rfl⟩))) ?_
    rw [show isI (.str "2") = false from rfl]
    tm_at "mm"
    rw [List.take_length]
    exact q
  · refine is_integer_int ?_
    tm_at "mm"
    refine chainB_i (fun _ => ?_) (fun e => absurd (of_decide_eq_false e) (by decide))
    tm_at "mm"
    show cmpB _ _ (.int 5) _ _ _
    tm_at "mm"
    rw [show decide ((2 + 10 ^ 20 : Int) ≤ 5) = false from by decide]
    tm_at "mm"
    rw [List.take_length]
    exact q
end

section
variable {R : D → Led → Prop} {E : XR} {n : Nat} {m rest : Led} {w f : List Int → Int} {d k : D} {ks : List (List Int)} {vs : List D} {RB : Bool → Led → Prop} {W P : D}
theorem is_integer_tup {xs : List D} (k : R (.bl false) m) : m_is_integer [.tup xs] m R E := by
  unfold m_is_integer; tm_at "en"; unfold b_is_integer
  tm_at "mm"; exact k
def PT (v : D) : Prop := PlL v ∨ ∃ xs, v = .tup xs
theorem is_integer_PT {x : D} (h : PT x) (k : R (.bl (isI x)) m) : m_is_integer [x] m R E := by
  rcases h with h | ⟨xs, rfl⟩
  · exact is_integer_L h k
  · exact is_integer_tup k
theorem from_dividends_ok (h0 : 1 ≤ n) (h5 : n ≤ 5) (s : ShOk n ks) (k : R (gameD n (smW ks f)) m) : m_from_dividends [.int (n : Int), shD ks f] m R E := by
  obtain ⟨s1, s2⟩ := grp_small n h5
  have hl := s.small h5
  unfold m_from_dividends; tm_at "en"; unfold b_from_dividends
  tm_at "mm"
  refine check_players_ok (by omega) (by omega) ?_
  tm_at "mm"
  refine isiA_m (isiO_dr (r := true) (by decide) (by decide) ?_)
  tm_at "mm"
  refine seqA_m (seq_D ?_)
  tm_at "mm"
  refine comp_map (e := keyD) (g := fun _ => .bl true) ks [] (fun g hg Q hq => ?_) (by simp; omega) ?_
  · have gg := s.sub g hg
    tm_at "mm"
    refine is_group_T (by have := s2 g gg; omega) ?_
    rw [isG_grp n h5 g gg]
    tm_at "mm"
    exact hq
  tm_at "mm"
  rw [List.nil_append, show ks.map (fun _ => D.bl true) = (ks.map fun _ => true).map D.bl by simp]
  refine all_L ?_
  rw [show ((ks.map fun _ => true).all id) = true by simp]
  tm_at "mm"
  refine ⟨_, _, rfl, ?_⟩
  tm_at "mm"
  refine comp_map (e := fun g => D.int (f g)) (g := fun _ => .bl true) ks [] (fun g hg Q hq => ?_) (by simp; omega) ?_
  · tm_at "mm"
    refine is_integer_int ?_
    tm_at "mm"
    exact hq
  tm_at "mm"
  rw [List.nil_append, show ks.map (fun _ => D.bl true) = (ks.map fun _ => true).map D.bl by simp]
  refine all_L ?_
  rw [show ((ks.map fun _ => true).all id) = true by simp]
  tm_at "mm"
  refine newD_A fun q => ?_
  tm_at "mm"
  refine groups_ok h0 h5 ?_
  tm_at "mm"
  refine dict_loop (f := smW ks f) (fun g hg k2 v2 hn hl2 Q q1 => ?_) h5 ?_
  · tm_at "mm"
    refine ⟨_, _, rfl, ?_⟩
    unfold itemsD
    rw [zip_keysA]
    tm_at "mm"
    refine comp_filter (e := fun g => D.tup [keyD g, .int (f g)]) (g := fun h => D.int (f h)) (p := fun h => subL h g) ks [] (fun h hh Q q1 q2 => ?_) (by simp; omega) ?_
    · tm_at "mm"
      refine lies_in_ok (by have := s2 h (s.sub h hh); omega) ?_
      refine tru_bl ?_
      refine iteM_i (fun e => ?_) (fun e => ?_)
      · tm_at "mm"
        exact q1 e
      · tm_at "mm"
        exact q2 e
    tm_at "mm"
    rw [List.nil_append]
    refine sums_row h5 s ?_
    tm_at "mm"
    refine stNewA m.length get_last (by omega) hn ?_
    rw [show (m ++ [(q, MO.dI k2 v2)]).set m.length (q, MO.dI (k2 ++ [g]) (v2 ++ [D.int (smW ks f g)])) = m ++ [(q, MO.dI (k2 ++ [g]) (v2 ++ [D.int (smW ks f g)]))] by simp]
    tm_at "mm"
    exact q1
  · tm_at "mm"
    refine frzD_i m.length get_last ?_
    rw [erase_lastA]
    tm_at "mm"
    refine game_ok h0 h5 ?_
    tm_at "mm"
    exact k
theorem from_bad (h0 : 1 ≤ n) (h5 : n ≤ 5) (hl : ks.length ≤ 1000) (hlv : vs.length ≤ 1000) (hk : ∀ g ∈ ks, g.length ≤ 1000) (hv : ∀ v ∈ vs, PT v) (hb : (ks.all (isG n) && vs.all isI) = false) (q : E "BadWorths" none m) : m_from_dividends [.int (n : Int), .dI ks vs] m R E := by
  unfold m_from_dividends; tm_at "en"; unfold b_from_dividends
  tm_at "mm"
  refine check_players_ok (by omega) (by omega) ?_
  tm_at "mm"
  refine isiA_m (isiO_dr (r := true) (by decide) (by decide) ?_)
  tm_at "mm"
  refine seqA_m (seq_D ?_)
  tm_at "mm"
  refine comp_map (e := keyD) (g := fun g => .bl (isG n g)) ks [] (fun g hg Q hq => ?_) (by simp; omega) ?_
  · tm_at "mm"
    refine is_group_T (hk g hg) ?_
    tm_at "mm"
    exact hq
  tm_at "mm"
  rw [List.nil_append, show ks.map (fun g => D.bl (isG n g)) = (ks.map fun g => isG n g).map D.bl by simp]
  refine all_L ?_
  rw [show ((ks.map fun g => isG n g).all id) = ks.all (isG n) by simp [List.all_map, Function.comp_def]]
  cases e : ks.all (isG n) with
  | false =>
    tm_at "mm"
    rw [List.take_length]
    exact q
  | true =>
    rw [e, Bool.true_and] at hb
    tm_at "mm"
    refine ⟨_, _, rfl, ?_⟩
    tm_at "mm"
    refine comp_id (g := fun x => D.bl (isI x)) vs (fun x hx Q hq => ?_) (by omega) ?_
    · tm_at "mm"
      refine is_integer_PT (hv x hx) ?_
      tm_at "mm"
      exact hq
    tm_at "mm"
    rw [show vs.map (fun x => D.bl (isI x)) = (vs.map isI).map D.bl by simp]
    refine all_L ?_
    rw [show ((vs.map isI).all id) = vs.all isI by simp [List.all_map], hb]
    tm_at "mm"
    rw [List.take_length]
    exact q
theorem from_odd (h0 : 1 ≤ n) (h5 : n ≤ 5) (hl : ks.length ≤ 1000) (hk : ∀ g ∈ ks, g.length ≤ 1000) (hb : BG n k) (q : E "BadWorths" none m) : m_from_dividends [.int (n : Int), .dO ks vs k d] m R E := by
  unfold m_from_dividends; tm_at "en"; unfold b_from_dividends
  tm_at "mm"
  refine check_players_ok (by omega) (by omega) ?_
  tm_at "mm"
  refine isiA_o (by decide) ?_
  rw [show (("dict" : String) == "dict") = true by decide]
  tm_at "mm"
  refine seqA_o ?_
  tm_at "mm"
  rw [show ks.map keyD ++ [k] = ((ks.map some ++ [none]) : List (Option (List Int))).map fun x => x.elim k keyD by simp [Function.comp_def]]
  refine comp_map (e := fun x : Option (List Int) => x.elim k keyD) (g := fun x => .bl (x.elim false (isG n))) (ks.map some ++ [none]) [] (fun x hx Q hq => ?_) (by simp; omega) ?_
  · cases x with
    | none =>
      show (bnd _ _ : M _) _ _ _
      tm_at "mm"
      refine is_group_no hb ?_
      tm_at "mm"
      exact hq
    | some g =>
      have hg : g ∈ ks := by simpa using hx
      show (bnd _ _ : M _) _ _ _
      tm_at "mm"
      refine is_group_T (g := g) (hk g hg) ?_
      tm_at "mm"
      exact hq
  tm_at "mm"
  rw [List.nil_append, show (ks.map some ++ [none] : List (Option (List Int))).map (fun x => D.bl (x.elim false (isG n))) = ((ks.map some ++ [none] : List (Option (List Int))).map fun x => x.elim false (isG n)).map D.bl by simp]
  refine all_L ?_
  rw [show (((ks.map some ++ [none] : List (Option (List Int))).map fun x => x.elim false (isG n)).all id) = false by simp]
  tm_at "mm"
  rw [List.take_length]
  exact q
def JunkS (W : D) : Prop := W = .non ∨ W = .lst [] ∨ W = .int 5 ∨ W = .lst [.tup [keyD [0], .int 1]]
theorem from_junk (h0 : 1 ≤ n) (h5 : n ≤ 5) (h : JunkS W) (q : E "BadWorths" none m) : m_from_dividends [.int (n : Int), W] m R E := by
  unfold m_from_dividends; tm_at "en"; unfold b_from_dividends
  tm_at "mm"
  refine check_players_ok (by omega) (by omega) ?_
  rcases h with rfl | rfl | rfl | rfl
  all_goals
    tm_at "mm"
    refine isiA_m ?_
    tm_at "mm"
    rw [List.take_length]
    exact q
theorem from_players (h : BadP P) (q : E "BadPlayers" none m) : m_from_dividends [P, W] m R E := by
  unfold m_from_dividends; tm_at "en"; unfold b_from_dividends
  tm_at "mm"
  refine check_players_no h ?_
  rw [List.take_length]
  exact q
theorem told_ok (h0 : 1 ≤ n) (h5 : n ≤ 5) (s : ShOk n ks) (q : R (wD n (smW ks f)) m) : m_law_told [.int (n : Int), shD ks f] m R E := by
  unfold m_law_told; tm_at "en"; unfold b_law_told
  tm_at "mm"
  refine from_dividends_ok h0 h5 s ?_
  tm_at "mm"
  refine chkO_o (by decide) ?_
  refine worths_ok h5 ?_
  tm_at "mm"
  exact q
def WrongS (n : Nat) (W : D) : Prop := ∀ {R : D → Led → Prop} {E : XR} {m : Led}, E "BadWorths" none m → m_from_dividends [.int (n : Int), W] m R E
theorem told_wrong (h : WrongS n W) (q : R (.str "worths") m) : m_law_told [.int (n : Int), W] m R E := by
  unfold m_law_told; tm_at "en"; unfold b_law_told
  tm_at "mm"
  refine h ?_
  refine catch_f (by decide) ?_
  refine catch_t (by decide) ?_
  tm_at "mm"
  exact q
theorem told_players (h : BadP P) (q : R (.str "players") m) : m_law_told [P, W] m R E := by
  unfold m_law_told; tm_at "en"; unfold b_law_told
  tm_at "mm"
  refine from_players h ?_
  refine catch_t (by decide) ?_
  tm_at "mm"
  exact q
end


section
variable {R : D → Led → Prop} {E : XR} {n : Nat} {m rest : Led} {w f : List Int → Int} {d k : D} {ks : List (List Int)} {vs : List D} {RB : Bool → Led → Prop} {W P : D} {ns : List Int} {p q : Addr} {a c : Int}
theorem badk : ∀ n : Nat, n ≤ 5 → isG n [(n : Int)] = false ∧ isG n ([] : List Int) = false ∧ isG n [1, 0] = false ∧ isG n [0, 0] = false ∧ isG n [-1] = false := by decide +kernel
theorem bad_not (h5 : n ≤ 5) (s : ShOk n ks) {g : List Int} (h : isG n g = false) : g ∉ ks := fun z => by
  rw [isG_grp n h5 g (s.sub g z)] at h
  cases h
theorem wr_key (h0 : 1 ≤ n) (h5 : n ≤ 5) (s : ShOk n ks) {g : List Int} (hg : isG n g = false) (hl : g.length ≤ 5) : WrongS n (.dI (ks ++ [g]) (ks.map (fun g => D.int (f g)) ++ [.int 1])) := fun q => by
  have sl := s.small h5
  refine from_bad h0 h5 (by simp; omega) (by simp; omega) (fun x hx => ?_) (fun x hx => ?_) ?_ q
  · rcases List.mem_append.mp hx with hx | hx
    · have := (grp_small n h5).2 x (s.sub x hx); omega
    · obtain rfl : x = g := by simpa using hx
      omega
  · rcases List.mem_append.mp hx with hx | hx
    · obtain ⟨y, _, rfl⟩ := List.mem_map.mp hx
      exact .inl (.inl (.inl ⟨_, rfl⟩))
    · obtain rfl : x = .int 1 := by simpa using hx
      exact .inl (.inl (.inl ⟨_, rfl⟩))
  · rw [List.all_append, List.all_cons, hg]
    simp
theorem wr_val (h0 : 1 ≤ n) (h5 : n ≤ 5) (hs : ∀ g ∈ ks, g ∈ grp n) (hl : ks.length ≤ 100) (hl2 : vs.length ≤ 100) (hv : ∀ v ∈ vs, PT v) {v : D} (hm : v ∈ vs) (hb : isI v = false) : WrongS n (.dI ks vs) := fun q => by
  refine from_bad h0 h5 (by omega) (by omega) (fun x hx => by have := (grp_small n h5).2 x (hs x hx); omega) hv ?_ q
  rw [show vs.all isI = false from List.all_eq_false.mpr ⟨v, hm, by rw [hb]; exact Bool.false_ne_true⟩, Bool.and_false]
theorem wr_odd (h0 : 1 ≤ n) (h5 : n ≤ 5) (hs : ∀ g ∈ ks, g ∈ grp n) (hl : ks.length ≤ 100) (hb : BG n k) : WrongS n (.dO ks vs k d) := fun q =>
  from_odd h0 h5 (by omega) (fun x hx => by have := (grp_small n h5).2 x (hs x hx); omega) hb q
theorem grp0 (h0 : 1 ≤ n) (h5 : n ≤ 5) : [0] ∈ grp n := by
  have : ∀ n : Nat, n ≤ 5 → 1 ≤ n → ([0] : List Int) ∈ grp n := by decide +kernel
  exact this n h5 h0
theorem hI_sub (h5 : n ≤ 5) (s : ShOk n ks) : (ks.map hI).Nodup := by
  have h := ((s.perm h5).map hI).nodup_iff.mp (((grp_hash n h5)).sublist ((List.filter_sublist (l := grp n) (p := fun g => decide (g ∈ ks))).map hI))
  exact h
theorem wrong_ok (hn : ns.length ≤ 63) (h0 : 1 ≤ n) (h5 : n ≤ 5) (s : ShOk n ks) (ha : 0 ≤ a) (ha2 : a ≤ 900000) (hc : 0 ≤ c)
    (kk : ∀ W a' c', WrongS n W → a ≤ a' → a' ≤ a + 2 → 0 ≤ c' → ∀ m2 : Led, R W (((p, poolO a' c' ns) :: rest))) : m_law_wrong [.ref p, .int (n : Int), shD ks f] ((p, poolO a c ns) :: rest) R E := by
  have kk' : ∀ W a' c' x, WrongS n W → a ≤ a' → a' ≤ a + 2 → 0 ≤ c' → fnR ((p, poolO a c ns) :: rest) R (.rt W) ((p, poolO a' c' ns) :: (rest ++ x)) := fun W a' c' x q1 q2 q3 q4 => fnR_rt (by
    rw [show ((p, poolO a c ns) :: rest).length = rest.length + 1 from rfl, List.take_succ_cons, List.take_append_of_le_length (Nat.le_refl _), List.take_length]
    exact kk W a' c' q1 q2 q3 q4 [])
  have kk0 : ∀ W a' c', WrongS n W → a ≤ a' → a' ≤ a + 2 → 0 ≤ c' → fnR ((p, poolO a c ns) :: rest) R (.rt W) ((p, poolO a' c' ns) :: rest) := fun W a' c' q1 q2 q3 q4 => by
    have := kk' W a' c' [] q1 q2 q3 q4
    rwa [List.append_nil] at this
  have sl := s.small h5
  obtain ⟨b1, b2, b3, b4, b5⟩ := badk n h5
  unfold m_law_wrong; tm_at "en"; unfold b_law_wrong
  tm_at "mm"
  refine .inr (.inl ⟨_, _, .inl rfl, hI_sub h5 s, fun q => ?_⟩)
  rw [List.cons_append]
  have sq : ∀ {a c : Int} {o o' : MO}, ((p, poolO a c ns) :: (rest ++ [(q, o)])).set (rest.length + 1) (q, o') = (p, poolO a c ns) :: (rest ++ [(q, o')]) := by simp
  have gq : ∀ {a c : Int} {o : MO}, ((p, poolO a c ns) :: (rest ++ [(q, o)]))[rest.length + 1]? = some (q, o) := by simp
  have dq : ∀ {a c : Int} {o : MO}, ((p, poolO a c ns) :: (rest ++ [(q, o)])).eraseIdx (rest.length + 1) = (p, poolO a c ns) :: rest := by
    intro a c o
    rw [List.eraseIdx_cons_succ, List.eraseIdx_append_of_length_le (Nat.le_refl _)]
    simp
  tm_at "mm"
  refine take_ok hn (by decide) (by omega) (by omega) hc ((Bd.lit _).up (by decide)) fun kd a2 c2 z1 z2 z3 z4 z5 => ?_
  have e4 : kd = 0 ∨ kd = 1 ∨ kd = 2 ∨ kd = 3 := by omega
  rcases e4 with rfl | rfl | rfl | rfl
  · tm_at "mm"
    refine iteM_dp (by decide) ?_
    tm_at "mm"
    refine take_ok hn (by decide) (by omega) (by omega) z5 ((Bd.lit _).up (by decide)) fun kx a3 c3 v1 v2 v3 v4 v5 => ?_
    have fin : ∀ g : List Int, isG n g = false → g.length ≤ 5 → atI [D.tup [], .tup [.int 1, .int 0], .tup [.int (n : Int)], .tup [.int 0, .int 0], .tup [.int (-1)], .int 3, .str "a"] kx = some (keyD g) → True := fun _ _ _ _ => trivial
    have e7 : (∃ g : List Int, isG n g = false ∧ g.length ≤ 5 ∧ atI [D.tup [], .tup [.int 1, .int 0], .tup [.int (n : Int)], .tup [.int 0, .int 0], .tup [.int (-1)], .int 3, .str "a"] kx = some (keyD g)) ∨ (∃ k : D, oddK k ∧ (∀ b, k = .tup [.bl b] → False) ∧ BG n k ∧ atI [D.tup [], .tup [.int 1, .int 0], .tup [.int (n : Int)], .tup [.int 0, .int 0], .tup [.int (-1)], .int 3, .str "a"] kx = some k) := by
      have e : kx = 0 ∨ kx = 1 ∨ kx = 2 ∨ kx = 3 ∨ kx = 4 ∨ kx = 5 ∨ kx = 6 := by omega
      rcases e with rfl | rfl | rfl | rfl | rfl | rfl | rfl
      · exact .inl ⟨[], b2, by decide, atI_0⟩
      · exact .inl ⟨[1, 0], b3, by decide, atI_1⟩
      · exact .inl ⟨[(n : Int)], b1, by simp, atI_2⟩
      · exact .inl ⟨[0, 0], b4, by decide, atI_3⟩
      · exact .inl ⟨[-1], b5, by decide, atI_nat (j := 4) rfl⟩
      · exact .inr ⟨.int 3, trivial, fun b e => (by cases e), .inl (.inl (.inl ⟨_, rfl⟩)), atI_nat (j := 5) rfl⟩
      · exact .inr ⟨.str "a", trivial, fun b e => (by cases e), .inl (.inl (.inr (.inr (.inr ⟨_, rfl⟩)))), atI_nat (j := 6) rfl⟩
    rcases e7 with ⟨g, g1, g2, g3⟩ | ⟨k, k1, k2, k3, k4⟩
    · refine ixL_i g3 ?_
      tm_at "mm"
      refine stA_m (stNewA (rest.length + 1) gq (by omega) (bad_not h5 s g1) ?_)
      rw [sq]
      tm_at "mm"
      refine iteM_dn (by decide) ?_
      tm_at "mm"
      refine iteM_dn (by decide) ?_
      tm_at "mm"
      refine iteM_dn (by decide) ?_
      tm_at "mm"
      refine frzU_m (frzD_i (rest.length + 1) gq ?_)
      rw [dq]
      tm_at "mm"
      exact kk0 _ _ _ (wr_key h0 h5 s g1 g2) (by omega) (by omega) v5
    · refine ixL_i k4 ?_
      tm_at "mm"
      refine stA_new gq (by omega) k1 (fun b e => (k2 b e).elim) ?_
      rw [sq]
      tm_at "mm"
      refine iteM_dn (by decide) ?_
      tm_at "mm"
      refine iteM_dn (by decide) ?_
      tm_at "mm"
      refine iteM_dn (by decide) ?_
      tm_at "mm"
      refine frzU_o (n := rest.length + 1) gq ?_
      rw [dq]
      tm_at "mm"
      exact kk0 _ _ _ (wr_odd h0 h5 s.sub (by omega) k3) (by omega) (by omega) v5
  · tm_at "mm"
    refine iteM_dn (by decide) ?_
    tm_at "mm"
    refine iteM_dp (by decide) ?_
    tm_at "mm"
    refine take_ok hn (by decide) (by omega) (by omega) z5 ((Bd.lit _).up (by decide)) fun kx a3 c3 v1 v2 v3 v4 v5 => ?_
    have e4 : ∃ v : D, atI [D.bl true, .non, .str "1", .tup [.int 1, .int 1]] kx = some v ∧ PT v ∧ isI v = false := by
      have e : kx = 0 ∨ kx = 1 ∨ kx = 2 ∨ kx = 3 := by omega
      rcases e with rfl | rfl | rfl | rfl
      · exact ⟨_, atI_0, .inl (.inl (.inr (.inl ⟨_, rfl⟩))), rfl⟩
      · exact ⟨_, atI_1, .inl (.inl (.inr (.inr (.inl rfl)))), rfl⟩
      · exact ⟨_, atI_2, .inl (.inl (.inr (.inr (.inr ⟨_, rfl⟩)))), rfl⟩
      · exact ⟨_, atI_3, .inr ⟨_, rfl⟩, rfl⟩
    obtain ⟨v, w1, w2, w3⟩ := e4
    refine ixL_i w1 ?_
    tm_at "mm"
    have pv : ∀ x ∈ ks.map (fun g => D.int (f g)), PT x := fun x hx => by
      obtain ⟨y, _, rfl⟩ := List.mem_map.mp hx
      exact .inl (.inl (.inl ⟨_, rfl⟩))
    by_cases h00 : ([0] : List Int) ∈ ks
    · obtain ⟨j, hj⟩ := List.mem_iff_getElem?.mp h00
      have hjl := (List.getElem?_eq_some_iff.mp hj).1
      refine stA_m ⟨rest.length + 1, _, _, [0], gq, rfl, by omega, .inl ⟨j, hj, ?_⟩⟩
      rw [sq]
      tm_at "mm"
      refine iteM_dn (by decide) ?_
      tm_at "mm"
      refine iteM_dn (by decide) ?_
      tm_at "mm"
      refine frzU_m (frzD_i (rest.length + 1) gq ?_)
      rw [dq]
      tm_at "mm"
      refine kk0 _ _ _ (wr_val h0 h5 s.sub (by omega) (by simp; omega) (fun x hx => ?_) (v := v) ?_ w3) (by omega) (by omega) v5
      · rcases List.mem_or_eq_of_mem_set hx with hx | rfl
        · exact pv x hx
        · exact w2
      · exact List.mem_of_getElem? (List.getElem?_set_self (by simpa using hjl))
    · refine stA_m (stNewA (k := [0]) (rest.length + 1) gq (by omega) h00 ?_)
      rw [sq]
      tm_at "mm"
      refine iteM_dn (by decide) ?_
      tm_at "mm"
      refine iteM_dn (by decide) ?_
      tm_at "mm"
      refine frzU_m (frzD_i (rest.length + 1) gq ?_)
      rw [dq]
      tm_at "mm"
      refine kk0 _ _ _ (wr_val h0 h5 (fun g hg => ?_) (by simp; omega) (by simp; omega) (fun x hx => ?_) (v := v) (by simp) w3) (by omega) (by omega) v5
      · rcases List.mem_append.mp hg with hg | hg
        · exact s.sub g hg
        · obtain rfl : g = [0] := by simpa using hg
          exact grp0 h0 h5
      · rcases List.mem_append.mp hx with hx | hx
        · exact pv x hx
        · obtain rfl : x = v := by simpa using hx
          exact w2
  · tm_at "mm"
    refine iteM_dn (by decide) ?_
    tm_at "mm"
    refine iteM_dn (by decide) ?_
    tm_at "mm"
    refine iteM_dp (by decide) ?_
    tm_at "mm"
    refine take_ok hn (by decide) (by omega) (by omega) z5 ((Bd.lit _).up (by decide)) fun kx a3 c3 v1 v2 v3 v4 v5 => ?_
    have e4 : ∃ v : D, atI [D.non, .lst [], .int 5, .lst [.tup [.tup [.int 0], .int 1]]] kx = some v ∧ JunkS v := by
      have e : kx = 0 ∨ kx = 1 ∨ kx = 2 ∨ kx = 3 := by omega
      rcases e with rfl | rfl | rfl | rfl
      · exact ⟨_, atI_0, .inl rfl⟩
      · exact ⟨_, atI_1, .inr (.inl rfl)⟩
      · exact ⟨_, atI_2, .inr (.inr (.inl rfl))⟩
      · exact ⟨_, atI_3, .inr (.inr (.inr rfl))⟩
    obtain ⟨v, w1, w2⟩ := e4
    refine ixL_i w1 ?_
    tm_at "mm"
    exact kk' _ _ _ _ (fun q => from_junk h0 h5 w2 q) (by omega) (by omega) v5
  · tm_at "mm"
    refine iteM_dn (by decide) ?_
    tm_at "mm"
    refine iteM_dn (by decide) ?_
    tm_at "mm"
    refine iteM_dn (by decide) ?_
    tm_at "mm"
    refine iteM_dp (by decide) ?_
    tm_at "mm"
    refine chkD_i (.inr ⟨rest.length + 1, q, rfl, gq⟩) ?_
    tm_at "mm"
    have bt : BG n (.tup [.bl true]) := .inr (.inr (.inl ⟨_, rfl, by simp, fun x hx => by
      obtain rfl : x = .bl true := by simpa using hx
      exact .inl (.inr (.inl ⟨_, rfl⟩)), by decide⟩))
    by_cases h1 : ([1] : List Int) ∈ ks
    · obtain ⟨j, hj⟩ := List.mem_iff_getElem?.mp h1
      have hjl := (List.getElem?_eq_some_iff.mp hj).1
      refine popD2_in (k := [1]) (rest.length + 1) j gq hj (x := .int (f [1])) (by rw [List.getElem?_map, hj]; rfl) ?_
      rw [sq]
      tm_at "mm"
      have hnj : [bitI true] ∉ ks.eraseIdx j := fun z => by
        have nd := s.nd
        have : ks = ks.eraseIdx j ∨ True := .inr trivial
        have e := List.Nodup.mem_erase_iff nd (a := [1]) (b := [1])
        have e2 : ks.eraseIdx j = ks.erase [1] := by
          rw [List.erase_eq_eraseIdx_of_idxOf (i := j)]
          have hi := List.Nodup.idxOf_getElem nd j hjl
          rw [(List.getElem?_eq_some_iff.mp hj).2] at hi
          exact hi
        rw [e2] at z
        exact (e.mp z).1 rfl
      refine stA_new gq (by rw [List.length_eraseIdx_of_lt hjl]; omega) trivial (fun b e => by cases e; exact hnj) ?_
      rw [sq]
      tm_at "mm"
      refine frzU_o (n := rest.length + 1) gq ?_
      rw [dq]
      tm_at "mm"
      exact kk0 _ _ _ (wr_odd h0 h5 (fun g hg => s.sub g (List.mem_of_mem_eraseIdx hg)) (by rw [List.length_eraseIdx_of_lt hjl]; omega) bt) (by omega) (by omega) z5
    · refine popD2_out (k := [1]) (rest.length + 1) gq h1 ?_
      tm_at "mm"
      refine stA_new gq (by omega) trivial (fun b e => by cases e; exact h1) ?_
      rw [sq]
      tm_at "mm"
      refine frzU_o (n := rest.length + 1) gq ?_
      rw [dq]
      tm_at "mm"
      exact kk0 _ _ _ (wr_odd h0 h5 s.sub (by omega) bt) (by omega) (by omega) z5
end


theorem sub_len : ∀ n, n ≤ 5 → ∀ g ∈ grp n, ∀ h ∈ grp n, subL h g = true → h ≠ g → h.length < g.length := by decide +kernel
theorem sum_one {g : List Int} {c : Int} : ∀ {l : List (List Int)}, l.Nodup → g ∈ l → (l.map fun h => if h = g then c else 0).sum = c
  | [], _, h => nomatch h
  | x :: l, nd, h => by
    obtain ⟨n1, n2⟩ := List.nodup_cons.mp nd
    rw [List.map_cons, List.sum_cons]
    by_cases e : x = g
    · subst e
      rw [if_pos rfl]
      have : (l.map fun h => if h = x then c else 0).sum = 0 := by
        rw [show (l.map fun h => if h = x then c else 0) = l.map fun _ => 0 from List.map_congr_left fun y hy => if_neg fun z : y = x => n1 (z ▸ hy)]
        clear nd h n1 n2
        induction l with
        | nil => rfl
        | cons a l ih => rw [List.map_cons, List.sum_cons, ih]; rfl
      omega
    · rw [if_neg e, sum_one n2 ((List.mem_cons.mp h).resolve_left fun z => e z.symm)]
      omega
theorem sum_diff {α : Type} {F G : α → Int} : ∀ l : List α, (l.map F).sum - (l.map G).sum = (l.map fun x => F x - G x).sum
  | [] => rfl
  | x :: l => by
    have := sum_diff (F := F) (G := G) l
    simp only [List.map_cons, List.sum_cons]
    omega
section
variable {R : D → Led → Prop} {E : XR} {n : Nat} {m rest : Led} {w f d d' : List Int → Int} {ks : List (List Int)} {ns : List Int} {p q : Addr} {a c : Int}
theorem dv_uniqK (h5 : n ≤ 5) (A : DvP n w d) (B : DvP n w d') : ∀ k : Nat, ∀ g ∈ grp n, g.length < k → d g = d' g
  | 0, g, _, h => absurd h (Nat.not_lt_zero _)
  | k + 1, g, hg, h => by
    have ih := dv_uniqK h5 A B k
    have e1 := A g hg
    have e2 := B g hg
    have e3 := sum_diff (F := fun h => if subL h g then d h else 0) (G := fun h => if subL h g then d' h else 0) (grp n)
    have e4 : ((grp n).map fun h => (if subL h g then d h else 0) - (if subL h g then d' h else 0)) = (grp n).map fun h => if h = g then d g - d' g else 0 := List.map_congr_left fun x hx => by
      by_cases e : x = g
      · subst e
        rw [if_pos (subL_self x), if_pos (subL_self x), if_pos rfl]
      · rw [if_neg e]
        cases q : subL x g with
        | false => simp
        | true =>
          have hl := sub_len n h5 g hg x hx q e
          rw [if_pos rfl, if_pos rfl, ih x hx (by omega)]
          omega
    rw [e4, sum_one (grp_nodup n h5) hg] at e3
    omega
theorem dv_uniq (h5 : n ≤ 5) (A : DvP n w d) (B : DvP n w d') {g : List Int} (hg : g ∈ grp n) : d g = d' g := dv_uniqK h5 A B (g.length + 1) g hg (Nat.lt_succ_self _)
theorem sh_dvp (h5 : n ≤ 5) (s : ShOk n ks) : DvP n (smW ks f) (fun h => if h ∈ ks then f h else 0) := fun g hg => by
  unfold smW
  rw [← perm_sum ((s.perm h5).map _), sum_flt]
  congr 1
  refine List.map_congr_left fun x hx => ?_
  show _ = if subL x g = true then (if x ∈ ks then f x else 0) else 0
  by_cases h1 : x ∈ ks
  · rw [if_pos (decide_eq_true h1), if_pos h1]
  · rw [if_neg (by simpa using h1), if_neg h1]
    simp
theorem sum_100 {F : List Int → Int} : ∀ l : List (List Int), (∀ g, -100 ≤ F g ∧ F g ≤ 100) → -(100 * (l.length : Int)) ≤ (l.map F).sum ∧ (l.map F).sum ≤ 100 * (l.length : Int)
  | [], _ => by simp
  | x :: l, h => by
    have h1 := h x
    have h2 := sum_100 l h
    rw [List.map_cons, List.sum_cons, List.length_cons]
    omega
theorem smW_bd (h5 : n ≤ 5) (s : ShOk n ks) (hf : ∀ g, -100 ≤ f g ∧ f g ≤ 100) (g : List Int) : Bd 12 (smW ks f g) := by
  have h1 := s.small h5
  have h2 := sum_100 (F := fun h => if subL h g then f h else 0) ks (fun x => by
    have := hf x
    show -100 ≤ (if subL x g = true then f x else 0) ∧ (if subL x g = true then f x else 0) ≤ 100
    split <;> omega)
  unfold Bd smW
  omega
theorem wD_cg {v w : List Int → Int} (h : ∀ g ∈ grp n, v g = w g) : wD n v = wD n w := by
  unfold wD
  rw [show ((grp n).map fun g => D.int (v g)) = (grp n).map fun g => .int (w g) from List.map_congr_left fun g hg => by rw [h g hg]]
theorem gameD_cg {v w : List Int → Int} (h : ∀ g ∈ grp n, v g = w g) : gameD n v = gameD n w := by
  unfold gameD gameV
  rw [wD_cg h]
theorem for_idl {f : D → Unit → M (Fl Unit Unit)} {R : Fl Unit Empty → Led → Prop} : ∀ xs : List D, (∀ x ∈ xs, ∀ Q : Fl Unit Unit → Led → Prop, Q (.nx ()) m → f x () m Q E) → R (.nx ()) m → forF f xs () m R E
  | [], _, k => k
  | x :: xs, h, k => h x List.mem_cons_self _ (for_idl xs (fun y hy => h y (List.mem_cons_of_mem _ hy)) k)
theorem list_dI {vs : List D} (h : R (.lst (ks.map keyD)) m) : listM [.dI ks vs] m R E := h
theorem grp_neq : ∀ n, n ≤ 5 → ∀ g ∈ grp n, g ≠ [] := by decide +kernel
theorem grp_srt1 (h5 : n ≤ 5) : (grp n).Pairwise (fun a c => lexI c a = false) := (List.pairwise_cons.mp (grp_srt n h5)).2
theorem sh_keys (l : List (List Int)) : Sh 20 (.lst (l.map keyD)) := fun x hx => by
  obtain ⟨g, _, rfl⟩ := List.mem_map.mp hx
  exact (nb_tup (n := 18) fun x _ => nb_int _ x).sh
def setF (f : List Int → Int) (g : List Int) (v : Int) : List Int → Int := fun x => if x = g then v else f x
theorem st_sh {sh : Addr} {g : List Int} {v : Int} {R : Unit → Led → Prop} (h5 : n ≤ 5) (s : ShOk n ks) (hg : g ∈ grp n) (j : Nat) (hm : m[j]? = some (sh, .dI ks (ks.map fun g => D.int (f g))))
    (k : ∀ ks', ShOk n ks' → R () (m.set j (sh, .dI ks' (ks'.map fun x => D.int (setF f g v x))))) : stM (.ref sh) (keyD g) (.int v) m R E := by
  have sl := s.small h5
  by_cases h : g ∈ ks
  · obtain ⟨i, hi⟩ := List.mem_iff_getElem?.mp h
    refine ⟨j, _, _, g, hm, rfl, by omega, .inl ⟨i, hi, ?_⟩⟩
    have e : (ks.map fun g => D.int (f g)).set i (.int v) = ks.map fun x => D.int (setF f g v x) := by
      apply List.ext_getElem?
      intro z
      by_cases hz : i = z
      · subst hz
        rw [List.getElem?_set_self (by simpa using (List.getElem?_eq_some_iff.mp hi).1), List.getElem?_map, hi]
        show some (D.int v) = some (D.int (if g = g then v else f g))
        rw [if_pos rfl]
      · rw [List.getElem?_set_ne hz, List.getElem?_map, List.getElem?_map]
        cases q : ks[z]? with
        | none => rfl
        | some y =>
          have : y ≠ g := fun e => hz (nd_ix s.nd hi (by rw [q, e]))
          show some (D.int (f y)) = some (D.int (if y = g then v else f y))
          rw [if_neg this]
    rw [e]
    exact k ks s
  · refine ⟨j, _, _, g, hm, rfl, by omega, .inr ⟨h, ?_⟩⟩
    have e : (ks.map fun g => D.int (f g)) ++ [D.int v] = (ks ++ [g]).map fun x => D.int (setF f g v x) := by
      rw [List.map_append]
      congr 1
      · refine List.map_congr_left fun y hy => ?_
        show D.int (f y) = D.int (if y = g then v else f y)
        rw [if_neg fun z : y = g => h (z ▸ hy)]
      · show [D.int v] = [D.int (if g = g then v else f g)]
        rw [if_pos rfl]
    rw [e]
    refine k _ ⟨fun x hx => ?_, List.nodup_append.mpr ⟨s.nd, by simp, fun x hx y hy => ?_⟩⟩
    · rcases List.mem_append.mp hx with hx | hx
      · exact s.sub x hx
      · obtain rfl : x = g := by simpa using hx
        exact hg
    · obtain rfl : y = g := by simpa using hy
      exact fun z => h (z ▸ hx)
end


theorem noDL_c {q : Addr} {o : MO} {m : Led} (h : noDM o = true) (hm : noDL m) : noDL ((q, o) :: m) := fun x hx => by
  rcases List.mem_cons.mp hx with rfl | hx
  · exact h
  · exact hm x hx
theorem noDs_bls : ∀ bs : List Bool, noDs (bs.map D.bl) = true
  | [] => rfl
  | b :: bs => by rw [List.map_cons]; show (noD (D.bl b) && noDs (bs.map D.bl)) = true; rw [noDs_bls bs]; rfl
theorem law_number_I {i : Int} {R : D → Led → Prop} {m : Led} {E : XR} (k : R (.bl true) m) : m_law_is_number [.int i] m R E := by
  unfold m_law_is_number; tm_at "en"; unfold b_law_is_number
  tm_at "mm"; exact k
theorem led_eq {α : Type} {x : M α} {m m' : Led} {R : α → Led → Prop} {E : XR} (e : m = m') (h : x m' R E) : x m R E := e ▸ h
theorem noDL_0 : noDL [] := fun _ h => nomatch h
theorem main_law (ns : List Int) (hl : ns.length ≤ 63) (R : D → Led → Prop) (hR : ∀ m', R (.bl true) m') : m_law [.lsk (ns.map D.int)] [] R NoX := by
  unfold m_law; tm_at "en"; unfold b_law
  tm_at "mm"
  refine pool_ok fun p => ?_
  rw [List.nil_append]
  tm_at "mm"
  refine few_ok hl (by decide) (by decide) (by decide) ?_
  intro n a1 c1 h0 h5 k1 k2 k3
  obtain ⟨s1, s2⟩ := grp_small n h5
  have gl : 1 ≤ (grp n).length := List.length_pos_of_mem (grp0 h0 h5)
  tm_at "mm"
  refine law_worths_ok hl h0 h5 (by omega) (by omega) k3 ?_
  intro w a2 c2 hw k4 k5 k6
  have B : ∀ g ∈ grp n, Bd 12 (w g) := fun g _ => by
    have := hw g
    unfold Bd
    omega
  tm_at "mm"
  refine game_ok h0 h5 ?_
  tm_at "mm"
  refine dividends_fr h0 h5 B noDL_1 fun q d hd bd => ?_
  have sg : ShOk n (grp n) := ⟨fun _ h => h, grp_nodup n h5⟩
  have esm : ∀ g ∈ grp n, smW (grp n) d g = w g := fun g hg => (hd g hg).symm
  tm_at "mm"
  refine thawT_i 1 rfl ?_
  tm_at "mm"
  refine list_dI ?_
  tm_at "mm"
  refine sortT_f (.inl (grp_neq n h5)) (List.Perm.refl _) (grp_srt1 h5) ?_
  tm_at "mm"
  refine law_groups_ok h5 ?_
  tm_at "mm"
  refine ne_rf (sh_keys _) ⟨noDL_1, ?_⟩
  tm_at "mm"
  refine thaw_i 1 rfl ?_
  tm_at "mm"
  refine comp_map (e := keyD) (g := fun _ => .bl true) (grp n) [] (fun g hg Q hq => ?_) (by simp; omega) ?_
  · tm_at "mm"
    refine ixD_sh (f := d) hg ?_
    tm_at "mm"
    refine law_number_I ?_
    tm_at "mm"
    exact hq
  tm_at "mm"
  rw [List.nil_append, show (grp n).map (fun _ => D.bl true) = ((grp n).map fun _ => true).map D.bl by simp]
  refine ⟨noDs_bls _, noDL_1, ?_⟩
  tm_at "mm"
  refine all_L ?_
  rw [show (((grp n).map fun _ => true).all id) = true by simp]
  tm_at "mm"
  refine thawT_i 1 rfl ?_
  tm_at "mm"
  refine law_sums_ok (f := d) h5 sg ?_
  rw [wD_cg esm]
  tm_at "mm"
  refine neW h5 ⟨noDL_1, ?_⟩
  tm_at "mm"
  refine thawT_i 1 rfl ?_
  tm_at "mm"
  refine from_dividends_ok (f := d) h0 h5 sg ?_
  rw [gameD_cg esm]
  tm_at "mm"
  refine .inl ⟨_, _, _, _, obj_game, obj_game, ?_⟩
  refine eq_ok h5 ⟨_, rfl, noDL_1, ?_⟩
  tm_at "mm"
  refine dictD_f (ks := grp n) (vs := (grp n).map fun g => D.int (d g)) (.inr ⟨1, q, rfl, rfl⟩) (grp_hash n h5) ?_
  tm_at "mm"
  refine clr_D 1 rfl ?_
  tm_at "mm"
  have nd1 : noDL [(p, poolO a2 c2 ns), (q, MO.dI [] [])] := noDL_c noD_pool (noDL_c rfl noDL_0)
  refine dividends_fr h0 h5 B nd1 fun q2 d2 hd2 bd2 => ?_
  rw [show ((grp n).map fun g => D.int (d2 g)) = (grp n).map fun g => D.int (d g) from List.map_congr_left fun g hg => by rw [dv_uniq h5 hd2 hd hg]]
  have nbd : ∀ {f : List Int → Int} {l : List (List Int)}, ∀ e ∈ l.map fun g => D.int (f g), NB 20 e := fun e he => by
    obtain ⟨g, _, rfl⟩ := List.mem_map.mp he
    exact nb_int _ _
  tm_at "mm"
  refine neDic_i (ks := grp n) (vs := (grp n).map fun g => D.int (d g)) (.inr ⟨2, q2, rfl, rfl⟩) (.inl rfl) (grp_nodup n h5) (by simp) nbd ?_
  tm_at "mm"
  refine law_groups_ok h5 ?_
  tm_at "mm"
  obtain ⟨rest, hrest⟩ : ∃ rest : Led, rest = [(q, MO.dI [] []), (q2, MO.dI (grp n) ((grp n).map fun g => D.int (d g)))] := ⟨_, rfl⟩
  have nr : noDL rest := by
    rw [hrest]
    exact noDL_c rfl (noDL_c (noDs_A _ _) noDL_0)
  refine newD_A fun sh => ?_
  refine led_eq (m' := (p, poolO a2 c2 ns) :: (rest ++ [(sh, MO.dI [] [])])) (by rw [hrest]; rfl) ?_
  tm_at "mm"
  refine take_ok hl (by decide) (by omega) (by omega) k6 ((Bd.lit _).up (by decide)) fun r9 a3 c3 x1 x2 x3 x4 x5 => ?_
  refine rng_i (by omega) (by omega) ?_
  obtain ⟨N, rfl⟩ := Int.eq_ofNat_of_zero_le x1
  rw [Int.toNat_natCast, rangeD_map]
  tm_at "mm"
  have sq : ∀ {a c : Int} {o o' : MO}, ((p, poolO a c ns) :: (rest ++ [(sh, o)])).set (rest.length + 1) (sh, o') = (p, poolO a c ns) :: (rest ++ [(sh, o')]) := by simp
  have gq : ∀ {a c : Int} {o : MO}, ((p, poolO a c ns) :: (rest ++ [(sh, o)]))[rest.length + 1]? = some (sh, o) := by simp
  have dq : ∀ {a c : Int} {o : MO}, ((p, poolO a c ns) :: (rest ++ [(sh, o)])).eraseIdx (rest.length + 1) = (p, poolO a c ns) :: rest := by
    intro a c o
    rw [List.eraseIdx_cons_succ, List.eraseIdx_append_of_length_le (Nat.le_refl _)]
    simp
  refine for_ind (e := fun i : Nat => D.int (i : Int)) (fun xs (_ : Unit) m' => ∃ (ks : List (List Int)) (f : List Int → Int) (a c : Int), ShOk n ks ∧ (∀ g, -100 ≤ f g ∧ f g ≤ 100) ∧ a3 ≤ a ∧ a + 2 * (xs.length : Int) ≤ a3 + 2 * (N : Int) ∧ 0 ≤ c ∧ m' = (p, poolO a c ns) :: (rest ++ [(sh, .dI ks (ks.map fun g => D.int (f g)))])) ?_ ?_ _ _ _ ⟨[], fun _ => 0, a3, c3, ⟨(fun _ h => nomatch h), List.nodup_nil⟩, (fun _ => (by show (-100 : Int) ≤ 0 ∧ (0 : Int) ≤ 100; decide)), by omega, by simp, x5, rfl⟩
  · rintro x xs _ _ ⟨ks, f, a, c, s, hf, y1, y2, y3, rfl⟩ Q q1 _ _
    rw [List.length_cons] at y2
    tm_at "mm"
    refine take_ok hl (by decide) (by omega) (by omega) y3 ((Bd.lit _).up (by decide)) fun v a4 c4 v1 v2 v3 v4 v5 => ?_
    tm_at "mm"
    rw [List.length_map]
    refine take_ok hl (by omega) (by omega) (by omega) v5 ((show Bd 20 (((grp n).length : Nat) : Int) by unfold Bd; omega).up (by decide)) fun ji a5 c5 u1 u2 u3 u4 u5 => ?_
    obtain ⟨J, rfl⟩ := Int.eq_ofNat_of_zero_le u1
    have hJ : J < (grp n).length := by omega
    refine ixL_i (v := keyD (grp n)[J]) (atI_nat (by rw [List.getElem?_map, List.getElem?_eq_getElem hJ]; rfl)) ?_
    tm_at "mm"
    refine st_sh h5 s (List.getElem_mem hJ) (rest.length + 1) gq fun ks' s' => ?_
    rw [sq]
    tm_at "mm"
    refine q1 _ _ ⟨ks', setF f (grp n)[J] (v - 100), a5, c5, s', fun g => ?_, by omega, by omega, u5, rfl⟩
    unfold setF
    split
    · omega
    · exact hf g
  · rintro _ _ ⟨ks, f, a, c, s, hf, y1, y2, y3, rfl⟩
    rw [List.length_nil] at y2
    tm_at "mm"
    refine frzD_i (rest.length + 1) gq ?_
    rw [dq]
    tm_at "mm"
    refine dictD_f (ks := ks) (vs := ks.map fun g => D.int (f g)) (.inl rfl) (hI_sub h5 s) ?_
    tm_at "mm"
    refine told_ok (f := f) h0 h5 s ?_
    tm_at "mm"
    refine law_sums_ok (f := f) h5 s ?_
    tm_at "mm"
    refine neW h5 ?_
    tm_at "mm"
    refine neDic_i (ks := ks) (vs := ks.map fun g => D.int (f g)) (.inl rfl) (.inl rfl) s.nd (by simp) nbd ?_
    tm_at "mm"
    refine law_sums_ok (f := f) h5 s ?_
    tm_at "mm"
    refine game_ok h0 h5 ?_
    tm_at "mm"
    have B2 : ∀ g ∈ grp n, Bd 12 (smW ks f g) := fun g _ => smW_bd h5 s hf g
    refine dividends_fr h0 h5 B2 (noDL_c noD_pool nr) fun q3 d3 hd3 bd3 => ?_
    have e3 : ∀ g ∈ grp n, d3 g = if g ∈ ks then f g else 0 := fun g hg => dv_uniq h5 hd3 (sh_dvp h5 s) hg
    rw [List.cons_append]
    have gq3 : ∀ {a c : Int} {o : MO}, ((p, poolO a c ns) :: (rest ++ [(q3, o)]))[rest.length + 1]? = some (q3, o) := by simp
    tm_at "mm"
    refine comp_filter (e := keyD) (g := keyD) (p := fun _ => false) (grp n) [] (fun g hg Q qa qb => ?_) (by simp; omega) ?_
    · obtain ⟨i, hi⟩ := List.mem_iff_getElem?.mp hg
      tm_at "mm"
      refine ⟨rest.length + 1, grp n, _, g, i, .int (d3 g), gq3, rfl, hi, by rw [List.getElem?_map, hi]; rfl, ?_⟩
      tm_at "mm"
      refine chkD_i (.inl rfl) ?_
      tm_at "mm"
      rw [e3 g hg]
      by_cases hk : g ∈ ks
      · rw [if_pos hk]
        obtain ⟨z, hz⟩ := List.mem_iff_getElem?.mp hk
        refine get_some (x := .int (f g)) z (.inl rfl) hz (by rw [List.getElem?_map, hz]; rfl) ?_
        refine ne_i ?_
        rw [decide_eq_true rfl]
        tm_at "mm"
        exact qb rfl
      · rw [if_neg hk]
        refine get_none (.inl rfl) hk ?_
        refine ne_i ?_
        rw [decide_eq_true rfl]
        tm_at "mm"
        exact qb rfl
    tm_at "mm"
    rw [show (grp n).filter (fun _ => false) = [] from List.filter_eq_nil_iff.mpr fun _ _ => Bool.false_ne_true]
    refine ne_rf (show Sh 20 (.lst []) from fun _ h => nomatch h) ?_
    tm_at "mm"
    refine wrong_ok (f := f) hl h0 h5 s (by omega) (by omega) y3 fun W a6 c6 hW u1 u2 u3 _ => ?_
    tm_at "mm"
    refine told_wrong hW ?_
    tm_at "mm"
    refine ne_rf trivial ?_
    tm_at "mm"
    refine for_idl _ (fun x hx Q hq => ?_) ?_
    · have bp : BadP x := by
        simp only [List.mem_cons, List.not_mem_nil, or_false] at hx
        rcases hx with rfl | rfl | rfl | rfl | rfl | rfl
        · exact .inl rfl
        · exact .inr (.inl rfl)
        · exact .inr (.inr (.inl rfl))
        · exact .inr (.inr (.inr (.inl rfl)))
        · exact .inr (.inr (.inr (.inr (.inl rfl))))
        · exact .inr (.inr (.inr (.inr (.inr (.inl rfl)))))
      tm_at "mm"
      refine told_players bp ?_
      tm_at "mm"
      refine ne_rf trivial ?_
      tm_at "mm"
      exact hq
    · tm_at "mm"
      refine chkO_o (by decide) ?_
      refine worths_ok h5 ?_
      tm_at "mm"
      refine eqW h5 ?_
      tm_at "mm"
      exact fnR_rt (hR _)


end K77
namespace DL
open PySem PySem.Spec PyProof.Rows L2

/-! ### the head by one kernel run: all that the end leans on is read off the heap behind the top, as one Bool and the defs' own texts -/
/-- a class of errors -/
theorem clsB_ok {K : PySem.W.Frag} {C : Addr} (h : clsB K C = true) : ∃ nm qq N bs bm sn sub ab col dd k0 k1 k2 k3 k5, K.lookup C = some (excClassObj nm qq C N bs bm true sn sub ab col dd k0 k1 k2 k3 k5 "ValueError.__new__") ∧ PySem.HandSPX.refsVE bm = true := by
  unfold clsB at h
  split at h
  · rename_i t dd nm bs a bm N qq hd sn sub ab col hdel sl e
    obtain ⟨h1, h⟩ := He.ba h
    obtain ⟨h2, h⟩ := He.ba h
    obtain ⟨h3, h⟩ := He.ba h
    obtain ⟨h4, h⟩ := He.ba h
    obtain ⟨h5, h⟩ := He.ba h
    split at h
    · rename_i k0 k1 k2 k3 b k5 es
      have e1 := of_decide_eq_true h1
      have e2 := of_decide_eq_true h2
      have e3 := of_decide_eq_true h
      have e5 : hdel = false := by simpa using h5
      subst e1 e2 e3 h4 e5
      have esl : sl = #[k0, k1, k2, k3, some (.builtin "ValueError.__new__"), k5] := by
        rw [← Array.toArray_toList (xs := sl), es]
      subst esl
      exact ⟨nm, qq, N, bs, bm, sn, sub, ab, col, dd, k0, k1, k2, k3, k5, e, h3⟩
    · cases h
  · cases h
/-- a class of errors and the def of its __init__ -/
theorem codB_ok {K : PySem.W.Frag} {file : Str} {C : Addr} {q : Str} {fd : FuncData} (h : codB K file C q fd = true) : PySem.W.codeIn K fd.code q = true ∧
    (∃ cda, fd.code = .ref cda ∧ ∃ ccl cdd vs ccs f tf, K.lookup cda = some ⟨ccl, cdd, .fields vs, ccs⟩ ∧ vs[2]? = some (Value.str f tf) ∧ (file == f) = true) ∧ ∃ nn cc, fd.closure = [(nn, cc)] ∧ ∃ cl cld csl, K.lookup cc = some ⟨cl, cld, .cell (some (.ref C)), csl⟩ := by
  unfold codB at h
  obtain ⟨h1, h⟩ := He.ba h
  obtain ⟨h2, h3⟩ := He.ba h
  refine ⟨h1, ?_, ?_⟩
  · split at h2
    · rename_i cda e
      split at h2
      · rename_i ccl cdd vs ccs lc
        split at h2
        · rename_i f tf hv
          exact ⟨cda, e, ccl, cdd, vs, ccs, f, tf, lc, hv, h2⟩
        · cases h2
      · cases h2
    · cases h2
  · split at h3
    · rename_i nn cc e
      split at h3
      · rename_i cl cld C' csl lcc
        have eC := of_decide_eq_true h3
        subst eC
        exact ⟨nn, cc, e, cl, cld, csl, lcc⟩
      · cases h3
    · cases h3
theorem xc_ok {P : Program} {K : PySem.W.Frag} {mg : Str → Option Value} {d : XcD} (e : xW K d.cls = d.val) (c : xcB K P.main.file d = true) (qx : PySem.W.nsIn K cStatics "thirdparty.any" = some none) (zs : mg "super" = none) (tp : (P.main.scope.names.lookup ("super" : Str)).isSome = false) :
    ∃ cc cda kV doc pm an ct, XIn P K mg (He.ga K d.cls) (He.ma K (He.ga K d.cls) "__init__") cc cda d.qual (fnC "__init__" d.qual d.st cc cda kV doc pm an ct) := by
  obtain ⟨c0, c⟩ := He.ba c
  obtain ⟨c1, c⟩ := He.ba c
  obtain ⟨c2, c⟩ := He.ba c
  obtain ⟨c3, c⟩ := He.ba c
  obtain ⟨c4, c⟩ := He.ba c
  obtain ⟨c5, c⟩ := He.ba c
  obtain ⟨c6, c⟩ := He.ba c
  obtain ⟨c7, c⟩ := He.ba c
  obtain ⟨c8, c⟩ := He.ba c
  obtain ⟨c9, c⟩ := He.ba c
  obtain ⟨cA, c⟩ := He.ba c
  obtain ⟨nm, qq, N, bs, bm, sn, sub, ab, col, dd, k0, k1, k2, k3, k5, lx, rx⟩ := clsB_ok c0
  unfold xW at e
  split at c
  · rename_i oc od fd osl q
    rw [q] at e
    obtain ⟨n1, n2, n3, n4, n5, n6, n7, n8, n9, n10, n11, n12, n13, n14, n15⟩ := fd
    have e2 : (some (n1, n2, n3, n4, n5, n6, n7.map (·.1), n8, n15) : XW) = some (("__init__" : Str), d.qual, defArgs d.st, FuncBody.stmts (defBody d.st), defScope d.st, mainGlobals, [("__class__" : Str)], Value.none, builtinsNs) := e
    simp only [Option.some.injEq, Prod.mk.injEq] at e2
    obtain ⟨h1, h2, h3, h4, h5, h6, h7, h8, h9⟩ := e2
    subst h1 h2 h3 h4 h5 h6 h8 h9
    obtain ⟨k1', ⟨cda, rfl, ccl, cdd, vs, ccs, file, tf, lc, hv, hf⟩, nn, cc, rfl, cl, cld, csl, lcc⟩ := codB_ok c
    have en : nn = "__class__" := by simpa using h7
    subst en
    exact ⟨cc, cda, n9, n10, n11, n12, n14, xin_mk lx rx (He.eqO_ok c1) (of_decide_eq_true c2) (of_decide_eq_true c3) c4 (He.eqO_ok c5) (of_decide_eq_true c6) q k1' lc hv hf lcc (He.eqO_ok c7) (of_decide_eq_true c8) (of_decide_eq_true c9) qx cA zs tp⟩
  · cases c
/-- a name of the module that holds a plain value -/
theorem glB_ok {K : PySem.W.Frag} {x : Str} {v : V} (h : glB K x v = true) : ∃ u, PySem.W.nsIn K mainGlobals x = some (some u) ∧ RelV v u := by
  unfold glB at h
  split at h
  · exact ⟨_, by assumption, He.relB_ok h⟩
  · cases h
section
variable {file : Str} {fs : List (PySem.W.Frag → Bool)} {fn : List He.DefD} {xs : List XcD} {K : PySem.W.Frag}
theorem SaysK.b (c : SaysK file fs fn xs K) : ((fs.all fun f => f K) && ((fn.all fun d => d.ok K) && xs.all fun d => xcB K file d)) = true := congrArg (fun z : AlK => z.1) c
theorem SaysK.fact (c : SaysK file fs fn xs K) (i : Nat) {f : PySem.W.Frag → Bool} (h : fs[i]? = some f := by rfl) : f K = true := List.all_eq_true.mp (He.ba c.b).1 f (List.mem_of_getElem? h)
theorem SaysK.def_ (c : SaysK file fs fn xs K) (i : Nat) {d : He.DefD} (h : fn[i]? = some d := by rfl) : ∃ fd, FunD K d.name d.qual d.params d.body d.scope (d.dvs K) (d.kws K) (He.fAd K d.at_) fd := by
  have e : fn.map (fun d => He.fnW K d.at_) = fn.map He.DefD.val := congrArg (fun z : AlK => z.2.1) c
  have e2 : (fn.map fun d => He.fnW K d.at_)[i]? = (fn.map He.DefD.val)[i]? := by rw [e]
  rw [List.getElem?_map, List.getElem?_map, h] at e2
  exact He.DefD.funD (Option.some.inj e2) (List.all_eq_true.mp (He.ba (He.ba c.b).2).1 d (List.mem_of_getElem? h))
theorem SaysK.xc {P : Program} {mg : Str → Option Value} (c : SaysK P.main.file fs fn xs K) (i : Nat) {d : XcD} (h : xs[i]? = some d) (qx : PySem.W.nsIn K cStatics "thirdparty.any" = some none) (zs : mg "super" = none) (tp : (P.main.scope.names.lookup ("super" : Str)).isSome = false) :
    ∃ cc cda kV doc pm an ct, XIn P K mg (He.ga K d.cls) (He.ma K (He.ga K d.cls) "__init__") cc cda d.qual (fnC "__init__" d.qual d.st cc cda kV doc pm an ct) := by
  have e : xs.map (fun d => xW K d.cls) = xs.map XcD.val := congrArg (fun z : AlK => z.2.2) c
  have e2 : (xs.map fun d => xW K d.cls)[i]? = (xs.map XcD.val)[i]? := by rw [e]
  rw [List.getElem?_map, List.getElem?_map, h] at e2
  exact xc_ok (Option.some.inj e2) (List.all_eq_true.mp (He.ba (He.ba c.b).2).2 d (List.mem_of_getElem? h)) qx zs tp
end
end DL


namespace K77
open PySem PySem.Spec PyProof.Rows L2 DL
abbrev s_BadPlayers__init__ : Stmt := DL.inClass (topS 2) 0
abbrev s_BadWorths__init__ : Stmt := DL.inClass (topS 3) 0
abbrev s_NoGroup__init__ : Stmt := DL.inClass (topS 4) 0
theorem all_mk {w : World} {K : PySem.W.Frag} {h : Heap} {mg : Str → Option Value} {fa : Addr} (X : K.In h) (G : h.Ns mainGlobals mg) (hfa : mg "law" = some (.ref fa)) (c : SaysK PySem.Challenge.pw_leastcomplaint_k77_dividends.main.file hdB hdF hdX K)
    : ∃ fd : FuncData, (∀ (s : Shared) (v : Value), BindsTo s fd ⟨[v], []⟩ [("_law_script", v)]) ∧ ∀ base : Heap, K.In base → base.Ns mainGlobals mg → FnOk PySem.Challenge.pw_leastcomplaint_k77_dividends w K mg base CX0 9 fa fd ["_law_script"] (lift K fun ds m R => m_law ds m R NoX) := by
  have oc_Game : PySem.W.nsIn K mainGlobals "Game" = some (some (.ref (He.ga K "Game"))) := He.eqO_ok (c.fact 0 rfl)
  have pg_Game : PySem.W.plainGet K (He.ga K "Game") Str.empty = true := (c.fact 1 rfl)
  have hd_Game : PySem.W.hasDictIn K (He.ga K "Game") = true := (c.fact 2 rfl)
  have po_Game : PySem.W.plainOver K (He.ga K "Game") = true := (c.fact 3 rfl)
  have sa_Game : PySem.W.findIn K (.ref (He.ga K "Game")) "__setattr__" = some (some (.builtin "object.__setattr__")) := He.eqO_ok (c.fact 4 rfl)
  have mk_Game : PySem.W.makesIn K (He.ga K "Game") = true := (c.fact 5 rfl)
  have kc_Game : PySem.W.keepIn K (.ref (He.ga K "Game")) = true := (c.fact 6 rfl)
  have na_Game_listed : PySem.W.findIn K (.ref (He.ga K "Game")) "listed" = some none := He.eqO_ok (c.fact 7 rfl)
  have na_Game_players : PySem.W.findIn K (.ref (He.ga K "Game")) "players" = some none := He.eqO_ok (c.fact 8 rfl)
  have na_Game_whole : PySem.W.findIn K (.ref (He.ga K "Game")) "whole" = some none := He.eqO_ok (c.fact 9 rfl)
  have na_Game_worth_of : PySem.W.findIn K (.ref (He.ga K "Game")) "worth_of" = some none := He.eqO_ok (c.fact 10 rfl)
  have o1_Game : PySem.W.findIn K (.ref (He.ga K "Game")) "__class__" = some (some (.builtin "object.__class__")) := He.eqO_ok (c.fact 11 rfl)
  have o2_Game : PySem.W.specialIn K (.builtin "object.__class__") "__get__" = some (some (.builtin "getset_descriptor.__get__")) := He.eqO_ok (c.fact 12 rfl)
  have o3_Game : PySem.W.takesIn K (.builtin "object.__class__") = some true := of_decide_eq_true (c.fact 13 rfl)
  have o4_Game : PySem.W.mroIn K (He.ga K "Game") (.type "object") = some true := of_decide_eq_true (c.fact 14 rfl)
  have o6_Game : PySem.W.kitOne K (.ref (He.ga K "Game")) (.ref (He.ga K "Game")) = some true := of_decide_eq_true (c.fact 15 rfl)
  have o5_Game_int : PySem.W.kitOne K (.ref (He.ga K "Game")) (.type "int") = some false := of_decide_eq_true (c.fact 16 rfl)
  have o5_Game_bool : PySem.W.kitOne K (.ref (He.ga K "Game")) (.type "bool") = some false := of_decide_eq_true (c.fact 17 rfl)
  have o5_Game_list : PySem.W.kitOne K (.ref (He.ga K "Game")) (.type "list") = some false := of_decide_eq_true (c.fact 18 rfl)
  have o5_Game_tuple : PySem.W.kitOne K (.ref (He.ga K "Game")) (.type "tuple") = some false := of_decide_eq_true (c.fact 19 rfl)
  have o5_Game_dict : PySem.W.kitOne K (.ref (He.ga K "Game")) (.type "dict") = some false := of_decide_eq_true (c.fact 20 rfl)
  have o5_Game_str : PySem.W.kitOne K (.ref (He.ga K "Game")) (.type "str") = some false := of_decide_eq_true (c.fact 21 rfl)
  have o7_Game_NoneType : PySem.W.kitOne K (.type "NoneType") (.ref (He.ga K "Game")) = some false := of_decide_eq_true (c.fact 22 rfl)
  have o7_Game_bool : PySem.W.kitOne K (.type "bool") (.ref (He.ga K "Game")) = some false := of_decide_eq_true (c.fact 23 rfl)
  have o7_Game_int : PySem.W.kitOne K (.type "int") (.ref (He.ga K "Game")) = some false := of_decide_eq_true (c.fact 24 rfl)
  have o7_Game_str : PySem.W.kitOne K (.type "str") (.ref (He.ga K "Game")) = some false := of_decide_eq_true (c.fact 25 rfl)
  have o7_Game_list : PySem.W.kitOne K (.type "list") (.ref (He.ga K "Game")) = some false := of_decide_eq_true (c.fact 26 rfl)
  have o7_Game_tuple : PySem.W.kitOne K (.type "tuple") (.ref (He.ga K "Game")) = some false := of_decide_eq_true (c.fact 27 rfl)
  have o7_Game_dict : PySem.W.kitOne K (.type "dict") (.ref (He.ga K "Game")) = some false := of_decide_eq_true (c.fact 28 rfl)
  have a0 : PySem.W.findIn K (.ref (He.ga K "Game")) "__iter__" = some (some (.ref (He.ma K (He.ga K "Game") "__iter__"))) := He.eqO_ok (c.fact 29 rfl)
  have i0 : PySem.W.isFn K (.ref (He.ma K (He.ga K "Game") "__iter__")) = true := (c.fact 30 rfl)
  have j0 : PySem.W.fnIn K (He.ma K (He.ga K "Game") "__iter__") = true := (c.fact 31 rfl)
  have k0 : PySem.W.keepIn K (.ref (He.ma K (He.ga K "Game") "__iter__")) = true := (c.fact 32 rfl)
  have a1 : PySem.W.nsIn K mainGlobals "is_integer" = some (some (.ref (He.ga K "is_integer"))) := He.eqO_ok (c.fact 33 rfl)
  have k1 : PySem.W.keepIn K (.ref (He.ga K "is_integer")) = true := (c.fact 34 rfl)
  have a2 : PySem.W.nsIn K mainGlobals "check_players" = some (some (.ref (He.ga K "check_players"))) := He.eqO_ok (c.fact 35 rfl)
  have k2 : PySem.W.keepIn K (.ref (He.ga K "check_players")) = true := (c.fact 36 rfl)
  have a3 : PySem.W.nsIn K mainGlobals "groups_of" = some (some (.ref (He.ga K "groups_of"))) := He.eqO_ok (c.fact 37 rfl)
  have k3 : PySem.W.keepIn K (.ref (He.ga K "groups_of")) = true := (c.fact 38 rfl)
  have a4 : PySem.W.nsIn K mainGlobals "groups" = some (some (.ref (He.ga K "groups"))) := He.eqO_ok (c.fact 39 rfl)
  have k4 : PySem.W.keepIn K (.ref (He.ga K "groups")) = true := (c.fact 40 rfl)
  have a5 : PySem.W.nsIn K mainGlobals "are_integers" = some (some (.ref (He.ga K "are_integers"))) := He.eqO_ok (c.fact 41 rfl)
  have k5 : PySem.W.keepIn K (.ref (He.ga K "are_integers")) = true := (c.fact 42 rfl)
  have a6 : PySem.W.nsIn K mainGlobals "is_group" = some (some (.ref (He.ga K "is_group"))) := He.eqO_ok (c.fact 43 rfl)
  have k6 : PySem.W.keepIn K (.ref (He.ga K "is_group")) = true := (c.fact 44 rfl)
  have a7 : PySem.W.nsIn K mainGlobals "has_worths" = some (some (.ref (He.ga K "has_worths"))) := He.eqO_ok (c.fact 45 rfl)
  have k7 : PySem.W.keepIn K (.ref (He.ga K "has_worths")) = true := (c.fact 46 rfl)
  have a8 : PySem.W.findIn K (.ref (He.ga K "Game")) "__init__" = some (some (.ref (He.ma K (He.ga K "Game") "__init__"))) := He.eqO_ok (c.fact 47 rfl)
  have i8 : PySem.W.isFn K (.ref (He.ma K (He.ga K "Game") "__init__")) = true := (c.fact 48 rfl)
  have j8 : PySem.W.fnIn K (He.ma K (He.ga K "Game") "__init__") = true := (c.fact 49 rfl)
  have k8 : PySem.W.keepIn K (.ref (He.ma K (He.ga K "Game") "__init__")) = true := (c.fact 50 rfl)
  have a9 : PySem.W.nsIn K mainGlobals "_law_pool" = some (some (.ref (He.ga K "_law_pool"))) := He.eqO_ok (c.fact 51 rfl)
  have k9 : PySem.W.keepIn K (.ref (He.ga K "_law_pool")) = true := (c.fact 52 rfl)
  have a10 : PySem.W.nsIn K mainGlobals "_law_take" = some (some (.ref (He.ga K "_law_take"))) := He.eqO_ok (c.fact 53 rfl)
  have k10 : PySem.W.keepIn K (.ref (He.ga K "_law_take")) = true := (c.fact 54 rfl)
  have a11 : PySem.W.nsIn K mainGlobals "_law_few" = some (some (.ref (He.ga K "_law_few"))) := He.eqO_ok (c.fact 55 rfl)
  have k11 : PySem.W.keepIn K (.ref (He.ga K "_law_few")) = true := (c.fact 56 rfl)
  have a12 : PySem.W.nsIn K mainGlobals "_law_groups" = some (some (.ref (He.ga K "_law_groups"))) := He.eqO_ok (c.fact 57 rfl)
  have k12 : PySem.W.keepIn K (.ref (He.ga K "_law_groups")) = true := (c.fact 58 rfl)
  have a13 : PySem.W.nsIn K mainGlobals "_law_any_worths" = some (some (.ref (He.ga K "_law_any_worths"))) := He.eqO_ok (c.fact 59 rfl)
  have k13 : PySem.W.keepIn K (.ref (He.ga K "_law_any_worths")) = true := (c.fact 60 rfl)
  have a14 : PySem.W.nsIn K mainGlobals "_law_sum" = some (some (.ref (He.ga K "_law_sum"))) := He.eqO_ok (c.fact 61 rfl)
  have k14 : PySem.W.keepIn K (.ref (He.ga K "_law_sum")) = true := (c.fact 62 rfl)
  have a15 : PySem.W.nsIn K mainGlobals "_law_worths" = some (some (.ref (He.ga K "_law_worths"))) := He.eqO_ok (c.fact 63 rfl)
  have k15 : PySem.W.keepIn K (.ref (He.ga K "_law_worths")) = true := (c.fact 64 rfl)
  have a16 : PySem.W.findIn K (.ref (He.ga K "Game")) "__getitem__" = some (some (.ref (He.ma K (He.ga K "Game") "__getitem__"))) := He.eqO_ok (c.fact 65 rfl)
  have i16 : PySem.W.isFn K (.ref (He.ma K (He.ga K "Game") "__getitem__")) = true := (c.fact 66 rfl)
  have j16 : PySem.W.fnIn K (He.ma K (He.ga K "Game") "__getitem__") = true := (c.fact 67 rfl)
  have k16 : PySem.W.keepIn K (.ref (He.ma K (He.ga K "Game") "__getitem__")) = true := (c.fact 68 rfl)
  have a17 : PySem.W.nsIn K mainGlobals "lies_in" = some (some (.ref (He.ga K "lies_in"))) := He.eqO_ok (c.fact 69 rfl)
  have k17 : PySem.W.keepIn K (.ref (He.ga K "lies_in")) = true := (c.fact 70 rfl)
  have a18 : PySem.W.nsIn K mainGlobals "dividends" = some (some (.ref (He.ga K "dividends"))) := He.eqO_ok (c.fact 71 rfl)
  have k18 : PySem.W.keepIn K (.ref (He.ga K "dividends")) = true := (c.fact 72 rfl)
  have a19 : PySem.W.findIn K (.ref (He.ga K "Game")) "worths" = some (some (.ref (He.ma K (He.ga K "Game") "worths"))) := He.eqO_ok (c.fact 73 rfl)
  have i19 : PySem.W.isFn K (.ref (He.ma K (He.ga K "Game") "worths")) = true := (c.fact 74 rfl)
  have j19 : PySem.W.fnIn K (He.ma K (He.ga K "Game") "worths") = true := (c.fact 75 rfl)
  have k19 : PySem.W.keepIn K (.ref (He.ma K (He.ga K "Game") "worths")) = true := (c.fact 76 rfl)
  have a20 : PySem.W.findIn K (.ref (He.ga K "Game")) "__eq__" = some (some (.ref (He.ma K (He.ga K "Game") "__eq__"))) := He.eqO_ok (c.fact 77 rfl)
  have i20 : PySem.W.isFn K (.ref (He.ma K (He.ga K "Game") "__eq__")) = true := (c.fact 78 rfl)
  have j20 : PySem.W.fnIn K (He.ma K (He.ga K "Game") "__eq__") = true := (c.fact 79 rfl)
  have k20 : PySem.W.keepIn K (.ref (He.ma K (He.ga K "Game") "__eq__")) = true := (c.fact 80 rfl)
  have a21 : PySem.W.nsIn K mainGlobals "from_dividends" = some (some (.ref (He.ga K "from_dividends"))) := He.eqO_ok (c.fact 81 rfl)
  have k21 : PySem.W.keepIn K (.ref (He.ga K "from_dividends")) = true := (c.fact 82 rfl)
  have a22 : PySem.W.nsIn K mainGlobals "_law_told" = some (some (.ref (He.ga K "_law_told"))) := He.eqO_ok (c.fact 83 rfl)
  have k22 : PySem.W.keepIn K (.ref (He.ga K "_law_told")) = true := (c.fact 84 rfl)
  have a23 : PySem.W.nsIn K mainGlobals "_law_inside" = some (some (.ref (He.ga K "_law_inside"))) := He.eqO_ok (c.fact 85 rfl)
  have k23 : PySem.W.keepIn K (.ref (He.ga K "_law_inside")) = true := (c.fact 86 rfl)
  have a24 : PySem.W.nsIn K mainGlobals "_law_sums" = some (some (.ref (He.ga K "_law_sums"))) := He.eqO_ok (c.fact 87 rfl)
  have k24 : PySem.W.keepIn K (.ref (He.ga K "_law_sums")) = true := (c.fact 88 rfl)
  have a25 : PySem.W.nsIn K mainGlobals "_law_wrong" = some (some (.ref (He.ga K "_law_wrong"))) := He.eqO_ok (c.fact 89 rfl)
  have k25 : PySem.W.keepIn K (.ref (He.ga K "_law_wrong")) = true := (c.fact 90 rfl)
  have a26 : PySem.W.nsIn K mainGlobals "_law_is_number" = some (some (.ref (He.ga K "_law_is_number"))) := He.eqO_ok (c.fact 91 rfl)
  have k26 : PySem.W.keepIn K (.ref (He.ga K "_law_is_number")) = true := (c.fact 92 rfl)
  have a27 : PySem.W.nsIn K mainGlobals "law" = some (some (.ref (He.ga K "law"))) := He.eqO_ok (c.fact 93 rfl)
  have k27 : PySem.W.keepIn K (.ref (He.ga K "law")) = true := (c.fact 94 rfl)
  have z0 : PySem.W.nsIn K mainGlobals "all" = some none := He.eqO_ok (c.fact 95 rfl)
  have z1 : PySem.W.nsIn K mainGlobals "bool" = some none := He.eqO_ok (c.fact 96 rfl)
  have z2 : PySem.W.nsIn K mainGlobals "dict" = some none := He.eqO_ok (c.fact 97 rfl)
  have z3 : PySem.W.nsIn K mainGlobals "int" = some none := He.eqO_ok (c.fact 98 rfl)
  have z4 : PySem.W.nsIn K mainGlobals "isinstance" = some none := He.eqO_ok (c.fact 99 rfl)
  have z5 : PySem.W.nsIn K mainGlobals "iter" = some none := He.eqO_ok (c.fact 100 rfl)
  have z6 : PySem.W.nsIn K mainGlobals "len" = some none := He.eqO_ok (c.fact 101 rfl)
  have z7 : PySem.W.nsIn K mainGlobals "list" = some none := He.eqO_ok (c.fact 102 rfl)
  have z8 : PySem.W.nsIn K mainGlobals "max" = some none := He.eqO_ok (c.fact 103 rfl)
  have z9 : PySem.W.nsIn K mainGlobals "min" = some none := He.eqO_ok (c.fact 104 rfl)
  have z10 : PySem.W.nsIn K mainGlobals "range" = some none := He.eqO_ok (c.fact 105 rfl)
  have z11 : PySem.W.nsIn K mainGlobals "sorted" = some none := He.eqO_ok (c.fact 106 rfl)
  have z12 : PySem.W.nsIn K mainGlobals "sum" = some none := He.eqO_ok (c.fact 107 rfl)
  have z13 : PySem.W.nsIn K mainGlobals "tuple" = some none := He.eqO_ok (c.fact 108 rfl)
  have z14 : PySem.W.nsIn K mainGlobals "zip" = some none := He.eqO_ok (c.fact 109 rfl)
  have ax_BadPlayers : PySem.W.nsIn K mainGlobals "BadPlayers" = some (some (.ref (He.ga K "BadPlayers"))) := He.eqO_ok (c.fact 110 rfl)
  have ax_BadWorths : PySem.W.nsIn K mainGlobals "BadWorths" = some (some (.ref (He.ga K "BadWorths"))) := He.eqO_ok (c.fact 111 rfl)
  have ax_DivisionError : PySem.W.nsIn K mainGlobals "DivisionError" = some (some (.ref (He.ga K "DivisionError"))) := He.eqO_ok (c.fact 112 rfl)
  have ax_Mismatch : PySem.W.nsIn K mainGlobals "Mismatch" = some (some (.ref (He.ga K "Mismatch"))) := He.eqO_ok (c.fact 113 rfl)
  have ax_NoGroup : PySem.W.nsIn K mainGlobals "NoGroup" = some (some (.ref (He.ga K "NoGroup"))) := He.eqO_ok (c.fact 114 rfl)
  have zsup : PySem.W.nsIn K mainGlobals "super" = some none := He.eqO_ok (c.fact 115 rfl)
  have zq : PySem.W.nsIn K cStatics "thirdparty.any" = some none := He.eqO_ok (c.fact 116 rfl)
  have nx_NoGroup : PySem.W.findIn K (.ref (He.ga K "NoGroup")) "group" = some none := He.eqO_ok (c.fact 117 rfl)
  have em_BadPlayers_BadPlayers : PySem.W.exmOne K (.ref (He.ga K "BadPlayers")) (.ref (He.ga K "BadPlayers")) = some true := of_decide_eq_true (c.fact 118 rfl)
  have em_BadPlayers_BadWorths : PySem.W.exmOne K (.ref (He.ga K "BadWorths")) (.ref (He.ga K "BadPlayers")) = some false := of_decide_eq_true (c.fact 119 rfl)
  have em_BadPlayers_DivisionError : PySem.W.exmOne K (.ref (He.ga K "DivisionError")) (.ref (He.ga K "BadPlayers")) = some false := of_decide_eq_true (c.fact 120 rfl)
  have em_BadPlayers_Mismatch : PySem.W.exmOne K (.ref (He.ga K "Mismatch")) (.ref (He.ga K "BadPlayers")) = some false := of_decide_eq_true (c.fact 121 rfl)
  have em_BadPlayers_NoGroup : PySem.W.exmOne K (.ref (He.ga K "NoGroup")) (.ref (He.ga K "BadPlayers")) = some false := of_decide_eq_true (c.fact 122 rfl)
  have em_BadWorths_BadPlayers : PySem.W.exmOne K (.ref (He.ga K "BadPlayers")) (.ref (He.ga K "BadWorths")) = some false := of_decide_eq_true (c.fact 123 rfl)
  have em_BadWorths_BadWorths : PySem.W.exmOne K (.ref (He.ga K "BadWorths")) (.ref (He.ga K "BadWorths")) = some true := of_decide_eq_true (c.fact 124 rfl)
  have em_BadWorths_DivisionError : PySem.W.exmOne K (.ref (He.ga K "DivisionError")) (.ref (He.ga K "BadWorths")) = some false := of_decide_eq_true (c.fact 125 rfl)
  have em_BadWorths_Mismatch : PySem.W.exmOne K (.ref (He.ga K "Mismatch")) (.ref (He.ga K "BadWorths")) = some false := of_decide_eq_true (c.fact 126 rfl)
  have em_BadWorths_NoGroup : PySem.W.exmOne K (.ref (He.ga K "NoGroup")) (.ref (He.ga K "BadWorths")) = some false := of_decide_eq_true (c.fact 127 rfl)
  obtain ⟨ug_MOST_PLAYERS, hg_MOST_PLAYERS, rg_MOST_PLAYERS⟩ := glB_ok (c.fact 128 rfl)
  have e := hfa.symm.trans (PySem.W.mg_of X G a27)
  cases e
  have mz_all := PySem.W.mg_none_of X G z0
  have mz_bool := PySem.W.mg_none_of X G z1
  have mz_dict := PySem.W.mg_none_of X G z2
  have mz_int := PySem.W.mg_none_of X G z3
  have mz_isinstance := PySem.W.mg_none_of X G z4
  have mz_iter := PySem.W.mg_none_of X G z5
  have mz_len := PySem.W.mg_none_of X G z6
  have mz_list := PySem.W.mg_none_of X G z7
  have mz_max := PySem.W.mg_none_of X G z8
  have mz_min := PySem.W.mg_none_of X G z9
  have mz_range := PySem.W.mg_none_of X G z10
  have mz_sorted := PySem.W.mg_none_of X G z11
  have mz_sum := PySem.W.mg_none_of X G z12
  have mz_tuple := PySem.W.mg_none_of X G z13
  have mz_zip := PySem.W.mg_none_of X G z14
  have mg_BadPlayers := PySem.W.mg_of X G ax_BadPlayers
  have mg_BadWorths := PySem.W.mg_of X G ax_BadWorths
  have mg_DivisionError := PySem.W.mg_of X G ax_DivisionError
  have mg_Mismatch := PySem.W.mg_of X G ax_Mismatch
  have mg_NoGroup := PySem.W.mg_of X G ax_NoGroup
  have mz_super := PySem.W.mg_none_of X G zsup
  obtain ⟨cc_BadPlayers, cda_BadPlayers, kV_BadPlayers, doc_BadPlayers, pm_BadPlayers, an_BadPlayers, ct_BadPlayers, Z0_BadPlayers⟩ := c.xc (P := PySem.Challenge.pw_leastcomplaint_k77_dividends) (mg := mg) 0 (d := hdC0) rfl zq mz_super (by decide +kernel)
  have Z_BadPlayers : XIn PySem.Challenge.pw_leastcomplaint_k77_dividends K mg (He.ga K "BadPlayers") (He.ma K (He.ga K "BadPlayers") "__init__") cc_BadPlayers cda_BadPlayers "BadPlayers.__init__" (fnC "__init__" "BadPlayers.__init__" s_BadPlayers__init__ cc_BadPlayers cda_BadPlayers kV_BadPlayers doc_BadPlayers pm_BadPlayers an_BadPlayers ct_BadPlayers) := Z0_BadPlayers
  have x_BadPlayers : XK0 PySem.Challenge.pw_leastcomplaint_k77_dividends w K mg "BadPlayers" (He.ga K "BadPlayers") := xk0_mk mg_BadPlayers Z_BadPlayers (sf := "self") ⟨rfl, rfl, rfl, rfl, ⟨_, rfl, rfl⟩, show ∀ x ∈ (defScope s_BadPlayers__init__).names, x.2 ≠ .cell by decide +kernel, rfl, rfl⟩ ⟨_, fun L => rfl⟩ rfl (fun _ _ => .of_eq rfl)
  obtain ⟨cc_BadWorths, cda_BadWorths, kV_BadWorths, doc_BadWorths, pm_BadWorths, an_BadWorths, ct_BadWorths, Z0_BadWorths⟩ := c.xc (P := PySem.Challenge.pw_leastcomplaint_k77_dividends) (mg := mg) 1 (d := hdC1) rfl zq mz_super (by decide +kernel)
  have Z_BadWorths : XIn PySem.Challenge.pw_leastcomplaint_k77_dividends K mg (He.ga K "BadWorths") (He.ma K (He.ga K "BadWorths") "__init__") cc_BadWorths cda_BadWorths "BadWorths.__init__" (fnC "__init__" "BadWorths.__init__" s_BadWorths__init__ cc_BadWorths cda_BadWorths kV_BadWorths doc_BadWorths pm_BadWorths an_BadWorths ct_BadWorths) := Z0_BadWorths
  have x_BadWorths : XK0 PySem.Challenge.pw_leastcomplaint_k77_dividends w K mg "BadWorths" (He.ga K "BadWorths") := xk0_mk mg_BadWorths Z_BadWorths (sf := "self") ⟨rfl, rfl, rfl, rfl, ⟨_, rfl, rfl⟩, show ∀ x ∈ (defScope s_BadWorths__init__).names, x.2 ≠ .cell by decide +kernel, rfl, rfl⟩ ⟨_, fun L => rfl⟩ rfl (fun _ _ => .of_eq rfl)
  obtain ⟨cc_NoGroup, cda_NoGroup, kV_NoGroup, doc_NoGroup, pm_NoGroup, an_NoGroup, ct_NoGroup, Z0_NoGroup⟩ := c.xc (P := PySem.Challenge.pw_leastcomplaint_k77_dividends) (mg := mg) 2 (d := hdC2) rfl zq mz_super (by decide +kernel)
  have Z_NoGroup : XIn PySem.Challenge.pw_leastcomplaint_k77_dividends K mg (He.ga K "NoGroup") (He.ma K (He.ga K "NoGroup") "__init__") cc_NoGroup cda_NoGroup "NoGroup.__init__" (fnC "__init__" "NoGroup.__init__" s_NoGroup__init__ cc_NoGroup cda_NoGroup kV_NoGroup doc_NoGroup pm_NoGroup an_NoGroup ct_NoGroup) := Z0_NoGroup
  have x_NoGroup : XK1 PySem.Challenge.pw_leastcomplaint_k77_dividends w K mg "NoGroup" "group" (He.ga K "NoGroup") := xk1_mk mg_NoGroup Z_NoGroup (sf := "self") (par := "group") (f := "group") ⟨rfl, rfl, rfl, rfl, ⟨_, rfl, rfl⟩, show ∀ x ∈ (defScope s_NoGroup__init__).names, x.2 ≠ .cell by decide +kernel, rfl, rfl⟩ ⟨_, fun L => rfl⟩ rfl (by decide) nx_NoGroup (by decide) (by decide) (fun L => rfl) rfl (fun _ _ _ => .of_eq rfl)
  have c_BadPlayers : ∃ Cc, mg "BadPlayers" = some (.ref Cc) := ⟨_, mg_BadPlayers⟩
  have xm_BadPlayers : ∀ q ∈ ([("BadPlayers", true), ("BadWorths", false), ("DivisionError", false), ("Mismatch", false), ("NoGroup", false)] : List (Str × Bool)), XM K mg q.1 "BadPlayers" q.2 := by
    intro q hq
    simp only [List.mem_cons, List.not_mem_nil, or_false] at hq
    rcases hq with rfl | rfl | rfl | rfl | rfl
    · exact ⟨_, _, mg_BadPlayers, mg_BadPlayers, em_BadPlayers_BadPlayers⟩
    · exact ⟨_, _, mg_BadWorths, mg_BadPlayers, em_BadPlayers_BadWorths⟩
    · exact ⟨_, _, mg_DivisionError, mg_BadPlayers, em_BadPlayers_DivisionError⟩
    · exact ⟨_, _, mg_Mismatch, mg_BadPlayers, em_BadPlayers_Mismatch⟩
    · exact ⟨_, _, mg_NoGroup, mg_BadPlayers, em_BadPlayers_NoGroup⟩
  have c_BadWorths : ∃ Cc, mg "BadWorths" = some (.ref Cc) := ⟨_, mg_BadWorths⟩
  have xm_BadWorths : ∀ q ∈ ([("BadPlayers", false), ("BadWorths", true), ("DivisionError", false), ("Mismatch", false), ("NoGroup", false)] : List (Str × Bool)), XM K mg q.1 "BadWorths" q.2 := by
    intro q hq
    simp only [List.mem_cons, List.not_mem_nil, or_false] at hq
    rcases hq with rfl | rfl | rfl | rfl | rfl
    · exact ⟨_, _, mg_BadPlayers, mg_BadWorths, em_BadWorths_BadPlayers⟩
    · exact ⟨_, _, mg_BadWorths, mg_BadWorths, em_BadWorths_BadWorths⟩
    · exact ⟨_, _, mg_DivisionError, mg_BadWorths, em_BadWorths_DivisionError⟩
    · exact ⟨_, _, mg_Mismatch, mg_BadWorths, em_BadWorths_Mismatch⟩
    · exact ⟨_, _, mg_NoGroup, mg_BadWorths, em_BadWorths_NoGroup⟩
  have h_MOST_PLAYERS : GC K mg "MOST_PLAYERS" g_MOST_PLAYERS := ⟨_, _, PySem.W.mg_of X G hg_MOST_PLAYERS, rg_MOST_PLAYERS, fun F => .int _⟩
  have cls_Game : Cls K (He.ga K "Game") := ⟨pg_Game, hd_Game, po_Game, sa_Game⟩
  have cg_Game : GC K mg "Game" (.cls "Game") := ⟨.ref (He.ga K "Game"), _, PySem.W.mg_of X G oc_Game, rfl, fun F => .cls oc_Game⟩
  have at_Game_listed : AttF K "Game" "listed" := ⟨(He.ga K "Game"), oc_Game, cls_Game, na_Game_listed⟩
  have at_Game_players : AttF K "Game" "players" := ⟨(He.ga K "Game"), oc_Game, cls_Game, na_Game_players⟩
  have at_Game_whole : AttF K "Game" "whole" := ⟨(He.ga K "Game"), oc_Game, cls_Game, na_Game_whole⟩
  have at_Game_worth_of : AttF K "Game" "worth_of" := ⟨(He.ga K "Game"), oc_Game, cls_Game, na_Game_worth_of⟩
  have obk_Game : ObjK K "Game" := ⟨(He.ga K "Game"), oc_Game, cls_Game, o1_Game, o2_Game, o3_Game, o4_Game, by
    intro n hn
    simp only [List.mem_cons, List.not_mem_nil, or_false] at hn
    rcases hn with rfl | rfl | rfl | rfl | rfl | rfl
    · exact o5_Game_int
    · exact o5_Game_bool
    · exact o5_Game_list
    · exact o5_Game_tuple
    · exact o5_Game_dict
    · exact o5_Game_str, o6_Game, by
    intro n hn
    simp only [List.mem_cons, List.not_mem_nil, or_false] at hn
    rcases hn with rfl | rfl | rfl | rfl | rfl | rfl | rfl
    · exact o7_Game_NoneType
    · exact o7_Game_bool
    · exact o7_Game_int
    · exact o7_Game_str
    · exact o7_Game_list
    · exact o7_Game_tuple
    · exact o7_Game_dict⟩
  have hob : ∀ cn ∈ (["Game"] : List Str), ObjK K cn := by
    intro cn hcn
    simp only [List.mem_cons, List.not_mem_nil, or_false] at hcn
    rcases hcn with rfl
    · exact obk_Game
  obtain ⟨fd0, FU0⟩ := c.def_ 0 (d := hdD0) rfl
  have F0 : FnD K "__iter__" "Game.__iter__" s_Game___iter__ [] (He.ma K (He.ga K "Game") "__iter__") fd0 := FU0
  obtain ⟨fd1, FU1⟩ := c.def_ 1 (d := hdD1) rfl
  have F1 : FnD K "is_integer" "is_integer" s_is_integer [] (He.ga K "is_integer") fd1 := FU1
  obtain ⟨fd2, FU2⟩ := c.def_ 2 (d := hdD2) rfl
  have F2 : FnD K "check_players" "check_players" s_check_players [] (He.ga K "check_players") fd2 := FU2
  obtain ⟨fd3, FU3⟩ := c.def_ 3 (d := hdD3) rfl
  have F3 : FnD K "groups_of" "groups_of" s_groups_of [] (He.ga K "groups_of") fd3 := FU3
  obtain ⟨fd4, FU4⟩ := c.def_ 4 (d := hdD4) rfl
  have F4 : FnD K "groups" "groups" s_groups [] (He.ga K "groups") fd4 := FU4
  obtain ⟨fd5, FU5⟩ := c.def_ 5 (d := hdD5) rfl
  have F5 : FnD K "are_integers" "are_integers" s_are_integers [] (He.ga K "are_integers") fd5 := FU5
  obtain ⟨fd6, FU6⟩ := c.def_ 6 (d := hdD6) rfl
  have F6 : FnD K "is_group" "is_group" s_is_group [] (He.ga K "is_group") fd6 := FU6
  obtain ⟨fd7, FU7⟩ := c.def_ 7 (d := hdD7) rfl
  have F7 : FnD K "has_worths" "has_worths" s_has_worths [] (He.ga K "has_worths") fd7 := FU7
  obtain ⟨fd8, FU8⟩ := c.def_ 8 (d := hdD8) rfl
  have F8 : FnD K "__init__" "Game.__init__" s_Game___init__ [] (He.ma K (He.ga K "Game") "__init__") fd8 := FU8
  obtain ⟨fd9, FU9⟩ := c.def_ 9 (d := hdD9) rfl
  have F9 : FnD K "_law_pool" "_law_pool" s_law_pool [] (He.ga K "_law_pool") fd9 := FU9
  obtain ⟨fd10, FU10⟩ := c.def_ 10 (d := hdD10) rfl
  have F10 : FnD K "_law_take" "_law_take" s_law_take [] (He.ga K "_law_take") fd10 := FU10
  obtain ⟨fd11, FU11⟩ := c.def_ 11 (d := hdD11) rfl
  have F11 : FnD K "_law_few" "_law_few" s_law_few [] (He.ga K "_law_few") fd11 := FU11
  obtain ⟨fd12, FU12⟩ := c.def_ 12 (d := hdD12) rfl
  have F12 : FnD K "_law_groups" "_law_groups" s_law_groups [] (He.ga K "_law_groups") fd12 := FU12
  obtain ⟨fd13, FU13⟩ := c.def_ 13 (d := hdD13) rfl
  have F13 : FnD K "_law_any_worths" "_law_any_worths" s_law_any_worths [] (He.ga K "_law_any_worths") fd13 := FU13
  obtain ⟨fd14, FU14⟩ := c.def_ 14 (d := hdD14) rfl
  have F14 : FnD K "_law_sum" "_law_sum" s_law_sum [] (He.ga K "_law_sum") fd14 := FU14
  obtain ⟨fd15, FU15⟩ := c.def_ 15 (d := hdD15) rfl
  have F15 : FnD K "_law_worths" "_law_worths" s_law_worths [] (He.ga K "_law_worths") fd15 := FU15
  obtain ⟨fd16, FU16⟩ := c.def_ 16 (d := hdD16) rfl
  have F16 : FnD K "__getitem__" "Game.__getitem__" s_Game___getitem__ [] (He.ma K (He.ga K "Game") "__getitem__") fd16 := FU16
  obtain ⟨fd17, FU17⟩ := c.def_ 17 (d := hdD17) rfl
  have F17 : FnD K "lies_in" "lies_in" s_lies_in [] (He.ga K "lies_in") fd17 := FU17
  obtain ⟨fd18, FU18⟩ := c.def_ 18 (d := hdD18) rfl
  have F18 : FnD K "dividends" "dividends" s_dividends [] (He.ga K "dividends") fd18 := FU18
  obtain ⟨fd19, FU19⟩ := c.def_ 19 (d := hdD19) rfl
  have F19 : FnD K "worths" "Game.worths" s_Game_worths [] (He.ma K (He.ga K "Game") "worths") fd19 := FU19
  obtain ⟨fd20, FU20⟩ := c.def_ 20 (d := hdD20) rfl
  have F20 : FnD K "__eq__" "Game.__eq__" s_Game___eq__ [] (He.ma K (He.ga K "Game") "__eq__") fd20 := FU20
  obtain ⟨fd21, FU21⟩ := c.def_ 21 (d := hdD21) rfl
  have F21 : FnD K "from_dividends" "from_dividends" s_from_dividends [] (He.ga K "from_dividends") fd21 := FU21
  obtain ⟨fd22, FU22⟩ := c.def_ 22 (d := hdD22) rfl
  have F22 : FnD K "_law_told" "_law_told" s_law_told [] (He.ga K "_law_told") fd22 := FU22
  obtain ⟨fd23, FU23⟩ := c.def_ 23 (d := hdD23) rfl
  have F23 : FnD K "_law_inside" "_law_inside" s_law_inside [] (He.ga K "_law_inside") fd23 := FU23
  obtain ⟨fd24, FU24⟩ := c.def_ 24 (d := hdD24) rfl
  have F24 : FnD K "_law_sums" "_law_sums" s_law_sums [] (He.ga K "_law_sums") fd24 := FU24
  obtain ⟨fd25, FU25⟩ := c.def_ 25 (d := hdD25) rfl
  have F25 : FnD K "_law_wrong" "_law_wrong" s_law_wrong [] (He.ga K "_law_wrong") fd25 := FU25
  obtain ⟨fd26, FU26⟩ := c.def_ 26 (d := hdD26) rfl
  have F26 : FnD K "_law_is_number" "_law_is_number" s_law_is_number [] (He.ga K "_law_is_number") fd26 := FU26
  obtain ⟨fd27, FU27⟩ := c.def_ 27 (d := hdD27) rfl
  obtain ⟨⟨oc27, od27, dV27, kV27, dc27, pm27, an27, cd27, ct27, sl27, rfl, l27, c27, hd27, _⟩, k27⟩ := FU27
  rcases hd27 with ⟨_, rfl⟩ | ⟨z, _⟩
  rotate_left
  · exact absurd rfl z
  have F27 := fun_mk (st := s_law) l27 c27 k27
  refine ⟨PySem.W.fnOf "law" "law" (defArgs s_law) (defBody s_law) (defScope s_law) .none kV27 dc27 pm27 an27 cd27 ct27, fun s v => .of_eq rfl, fun base _ _ => ?_⟩
  have KI_Game : KnowsI PySem.Challenge.pw_leastcomplaint_k77_dividends w K mg base 1 "Game" "listed" := ⟨(He.ga K "Game"), (He.ma K (He.ga K "Game") "__iter__"), _, iter_ok (k := 0) F0 sc_Game___iter__ ⟨_, _, _, _, _, rfl⟩ at_Game_listed mz_iter, oc_Game, ⟨a0, i0, k0⟩, (F0.bindsN fun _ _ _ _ _ _ us hl => match us, hl with | [_], _ => rfl)⟩
  have K_is_integer : KnowsX PySem.Challenge.pw_leastcomplaint_k77_dividends w K mg base 1 "is_integer" 1 [] m_is_integer := knows0 (ok_is_integer (k := 0) F1 (by decide) mz_bool mz_int mz_isinstance hob) (PySem.W.mg_of X G a1) k1 (F1.bindsN fun _ _ _ _ _ _ us hl => match us, hl with | [_], _ => rfl)
  have K_check_players : KnowsX PySem.Challenge.pw_leastcomplaint_k77_dividends w K mg base 2 "check_players" 1 [] m_check_players := knows0 (ok_check_players (k := 1) F2 (by decide) (K_is_integer.mono (by decide)) x_BadPlayers h_MOST_PLAYERS) (PySem.W.mg_of X G a2) k2 (F2.bindsN fun _ _ _ _ _ _ us hl => match us, hl with | [_], _ => rfl)
  have K_groups_of : KnowsX PySem.Challenge.pw_leastcomplaint_k77_dividends w K mg base 1 "groups_of" 1 [] m_groups_of := knows0 (ok_groups_of (k := 0) F3 (by decide) mz_sorted) (PySem.W.mg_of X G a3) k3 (F3.bindsN fun _ _ _ _ _ _ us hl => match us, hl with | [_], _ => rfl)
  have K_groups : KnowsX PySem.Challenge.pw_leastcomplaint_k77_dividends w K mg base 3 "groups" 1 [] m_groups := knows0 (ok_groups (k := 2) F4 (by decide) mz_list mz_range (K_check_players.mono (by decide)) (K_groups_of.mono (by decide))) (PySem.W.mg_of X G a4) k4 (F4.bindsN fun _ _ _ _ _ _ us hl => match us, hl with | [_], _ => rfl)
  have K_are_integers : KnowsX PySem.Challenge.pw_leastcomplaint_k77_dividends w K mg base 2 "are_integers" 1 [] m_are_integers := knows0 (ok_are_integers (k := 1) F5 (by decide) mz_all mz_isinstance mz_list mz_tuple (K_is_integer.mono (by decide)) hob) (PySem.W.mg_of X G a5) k5 (F5.bindsN fun _ _ _ _ _ _ us hl => match us, hl with | [_], _ => rfl)
  have K_is_group : KnowsX PySem.Challenge.pw_leastcomplaint_k77_dividends w K mg base 3 "is_group" 2 [] m_is_group := knows0 (ok_is_group (k := 2) F6 (by decide) mz_all mz_isinstance mz_len mz_tuple mz_zip (K_are_integers.mono (by decide)) hob) (PySem.W.mg_of X G a6) k6 (F6.bindsN fun _ _ _ _ _ _ us hl => match us, hl with | [_, _], _ => rfl)
  have K_has_worths : KnowsX PySem.Challenge.pw_leastcomplaint_k77_dividends w K mg base 4 "has_worths" 2 [] m_has_worths := knows0 (ok_has_worths (k := 3) F7 (by decide) mz_all mz_dict mz_isinstance mz_len (K_groups.mono (by decide)) (K_is_group.mono (by decide)) (K_is_integer.mono (by decide)) hob) (PySem.W.mg_of X G a7) k7 (F7.bindsN fun _ _ _ _ _ _ us hl => match us, hl with | [_, _], _ => rfl)
  have KC_Game : KnowsC PySem.Challenge.pw_leastcomplaint_k77_dividends w K mg base 5 "Game" 2 m_Game___init__ := ⟨(He.ga K "Game"), (He.ma K (He.ga K "Game") "__init__"), _, _, (ok_Game___init__ (k := 4) F8 (by decide) mz_list mz_range mz_tuple (K_check_players.mono (by decide)) (K_groups_of.mono (by decide)) (K_has_worths.mono (by decide)) x_BadWorths at_Game_listed at_Game_players at_Game_whole at_Game_worth_of), PySem.W.mg_of X G oc_Game, oc_Game, ⟨mk_Game, a8, i8, kc_Game⟩, (F8.bindsN fun _ _ _ _ _ _ us hl => match us, hl with | [_, _, _], _ => rfl), rfl⟩
  have K_law_pool : KnowsX PySem.Challenge.pw_leastcomplaint_k77_dividends w K mg base 1 "_law_pool" 1 [] m_law_pool := knows0 (ok_law_pool (k := 0) F9 (by decide) mz_list) (PySem.W.mg_of X G a9) k9 (F9.bindsN fun _ _ _ _ _ _ us hl => match us, hl with | [_], _ => rfl)
  have K_law_take : KnowsX PySem.Challenge.pw_leastcomplaint_k77_dividends w K mg base 1 "_law_take" 2 [] m_law_take := knows0 (ok_law_take (k := 0) F10 (by decide) mz_int mz_len mz_max) (PySem.W.mg_of X G a10) k10 (F10.bindsN fun _ _ _ _ _ _ us hl => match us, hl with | [_, _], _ => rfl)
  have K_law_few : KnowsX PySem.Challenge.pw_leastcomplaint_k77_dividends w K mg base 2 "_law_few" 1 [] m_law_few := knows0 (ok_law_few (k := 1) F11 (by decide) mz_int (K_law_take.mono (by decide))) (PySem.W.mg_of X G a11) k11 (F11.bindsN fun _ _ _ _ _ _ us hl => match us, hl with | [_], _ => rfl)
  have K_law_groups : KnowsX PySem.Challenge.pw_leastcomplaint_k77_dividends w K mg base 1 "_law_groups" 1 [] m_law_groups := knows0 (ok_law_groups (k := 0) F12 (by decide) mz_range mz_sorted) (PySem.W.mg_of X G a12) k12 (F12.bindsN fun _ _ _ _ _ _ us hl => match us, hl with | [_], _ => rfl)
  have K_law_any_worths : KnowsX PySem.Challenge.pw_leastcomplaint_k77_dividends w K mg base 2 "_law_any_worths" 3 [] m_law_any_worths := knows0 (ok_law_any_worths (k := 1) F13 (by decide) mz_dict (K_law_groups.mono (by decide)) (K_law_take.mono (by decide))) (PySem.W.mg_of X G a13) k13 (F13.bindsN fun _ _ _ _ _ _ us hl => match us, hl with | [_, _, _], _ => rfl)
  have K_law_sum : KnowsX PySem.Challenge.pw_leastcomplaint_k77_dividends w K mg base 1 "_law_sum" 2 [] m_law_sum := knows0 (ok_law_sum (k := 0) F14 (by decide) mz_sum) (PySem.W.mg_of X G a14) k14 (F14.bindsN fun _ _ _ _ _ _ us hl => match us, hl with | [_, _], _ => rfl)
  have K_law_worths : KnowsX PySem.Challenge.pw_leastcomplaint_k77_dividends w K mg base 3 "_law_worths" 2 [] m_law_worths := knows0 (ok_law_worths (k := 2) F15 (by decide) mz_dict mz_int mz_len mz_max mz_min mz_range mz_sum mz_tuple (K_law_any_worths.mono (by decide)) (K_law_sum.mono (by decide)) (K_law_take.mono (by decide))) (PySem.W.mg_of X G a15) k15 (F15.bindsN fun _ _ _ _ _ _ us hl => match us, hl with | [_, _], _ => rfl)
  have KM_Game___getitem__ : KnowsM PySem.Challenge.pw_leastcomplaint_k77_dividends w K mg base 4 "Game" "__getitem__" 1 m_Game___getitem__ := ⟨(He.ga K "Game"), (He.ma K (He.ga K "Game") "__getitem__"), _, _, (ok_Game___getitem__ (k := 3) F16 (by decide) (K_is_group.mono (by decide)) x_NoGroup at_Game_players at_Game_worth_of), oc_Game, cls_Game, ⟨a16, i16, k16⟩, (F16.bindsN fun _ _ _ _ _ _ us hl => match us, hl with | [_, _], _ => rfl), rfl⟩
  have fg_Game : FnG K "Game" := fun C f hC hf => by
    have e1 := CnIs.inj hC oc_Game
    subst e1
    have e2 := hf.symm.trans a16
    cases e2
    exact j16
  have K_lies_in : KnowsX PySem.Challenge.pw_leastcomplaint_k77_dividends w K mg base 1 "lies_in" 2 [] m_lies_in := knows0 (ok_lies_in (k := 0) F17 (by decide) mz_all) (PySem.W.mg_of X G a17) k17 (F17.bindsN fun _ _ _ _ _ _ us hl => match us, hl with | [_, _], _ => rfl)
  have K_dividends : KnowsX PySem.Challenge.pw_leastcomplaint_k77_dividends w K mg base 6 "dividends" 1 [] m_dividends := knows0 (ok_dividends (k := 5) F18 (by decide) mz_len mz_range mz_sum (K_lies_in.mono (by decide)) KM_Game___getitem__ fg_Game KI_Game at_Game_players) (PySem.W.mg_of X G a18) k18 (F18.bindsN fun _ _ _ _ _ _ us hl => match us, hl with | [_], _ => rfl)
  have KM_Game_worths : KnowsM PySem.Challenge.pw_leastcomplaint_k77_dividends w K mg base 1 "Game" "worths" 0 m_Game_worths := ⟨(He.ga K "Game"), (He.ma K (He.ga K "Game") "worths"), _, _, (ok_Game_worths (k := 0) F19 (by decide) mz_dict at_Game_worth_of), oc_Game, cls_Game, ⟨a19, i19, k19⟩, (F19.bindsN fun _ _ _ _ _ _ us hl => match us, hl with | [_], _ => rfl), rfl⟩
  have KM_Game___eq__ : KnowsM PySem.Challenge.pw_leastcomplaint_k77_dividends w K mg base 1 "Game" "__eq__" 1 m_Game___eq__ := ⟨(He.ga K "Game"), (He.ma K (He.ga K "Game") "__eq__"), _, _, (ok_Game___eq__ (k := 0) F20 (by decide) mz_isinstance cg_Game at_Game_worth_of hob), oc_Game, cls_Game, ⟨a20, i20, k20⟩, (F20.bindsN fun _ _ _ _ _ _ us hl => match us, hl with | [_, _], _ => rfl), rfl⟩
  have K_from_dividends : KnowsX PySem.Challenge.pw_leastcomplaint_k77_dividends w K mg base 7 "from_dividends" 2 [] m_from_dividends := knows0 (ok_from_dividends (k := 6) F21 (by decide) mz_all mz_dict mz_isinstance mz_sum (K_check_players.mono (by decide)) (K_groups.mono (by decide)) (K_is_group.mono (by decide)) (K_is_integer.mono (by decide)) (K_lies_in.mono (by decide)) x_BadWorths KC_Game hob) (PySem.W.mg_of X G a21) k21 (F21.bindsN fun _ _ _ _ _ _ us hl => match us, hl with | [_, _], _ => rfl)
  have K_law_told : KnowsX PySem.Challenge.pw_leastcomplaint_k77_dividends w K mg base 8 "_law_told" 2 [] m_law_told := knows0 (ok_law_told (k := 7) F22 (by decide) (K_from_dividends.mono (by decide)) c_BadPlayers xm_BadPlayers c_BadWorths xm_BadWorths (KM_Game_worths.mono (by decide))) (PySem.W.mg_of X G a22) k22 (F22.bindsN fun _ _ _ _ _ _ us hl => match us, hl with | [_, _], _ => rfl)
  have K_law_inside : KnowsX PySem.Challenge.pw_leastcomplaint_k77_dividends w K mg base 1 "_law_inside" 2 [] m_law_inside := knows0 (ok_law_inside (k := 0) F23 (by decide)) (PySem.W.mg_of X G a23) k23 (F23.bindsN fun _ _ _ _ _ _ us hl => match us, hl with | [_, _], _ => rfl)
  have K_law_sums : KnowsX PySem.Challenge.pw_leastcomplaint_k77_dividends w K mg base 2 "_law_sums" 2 [] m_law_sums := knows0 (ok_law_sums (k := 1) F24 (by decide) mz_sum (K_law_groups.mono (by decide)) (K_law_inside.mono (by decide))) (PySem.W.mg_of X G a24) k24 (F24.bindsN fun _ _ _ _ _ _ us hl => match us, hl with | [_, _], _ => rfl)
  have K_law_wrong : KnowsX PySem.Challenge.pw_leastcomplaint_k77_dividends w K mg base 2 "_law_wrong" 3 [] m_law_wrong := knows0 (ok_law_wrong (k := 1) F25 (by decide) mz_dict (K_law_take.mono (by decide))) (PySem.W.mg_of X G a25) k25 (F25.bindsN fun _ _ _ _ _ _ us hl => match us, hl with | [_, _, _], _ => rfl)
  have K_law_is_number : KnowsX PySem.Challenge.pw_leastcomplaint_k77_dividends w K mg base 1 "_law_is_number" 1 [] m_law_is_number := knows0 (ok_law_is_number (k := 0) F26 (by decide) mz_bool mz_int mz_isinstance hob) (PySem.W.mg_of X G a26) k26 (F26.bindsN fun _ _ _ _ _ _ us hl => match us, hl with | [_], _ => rfl)
  exact ok_law (k := 8) F27 (by decide) mz_all mz_dict mz_len mz_list mz_range mz_sorted (K_law_few.mono (by decide)) (K_law_groups.mono (by decide)) (K_law_is_number.mono (by decide)) (K_law_pool.mono (by decide)) (K_law_sums.mono (by decide)) (K_law_take.mono (by decide)) (K_law_told.mono (by decide)) (K_law_worths.mono (by decide)) (K_law_wrong.mono (by decide)) (K_dividends.mono (by decide)) (K_from_dividends.mono (by decide)) KC_Game (KM_Game_worths.mono (by decide)) KM_Game___eq__
end K77
open PySem PySem.W PyProof.Rows
set_option maxHeartbeats 0 in
theorem PySem.Challenge.cw_leastcomplaint_k77_dividends_holds : PySem.Challenge.rw_leastcomplaint_k77_dividends.Holds := by
  w_on; o_law
  refine HandSHeadRun.head_any (r := OpenLaw.row PySem.Challenge.rw_leastcomplaint_k77_dividends) (q := view (OpenLaw.row PySem.Challenge.rw_leastcomplaint_k77_dividends).prog [34]) (H := K77.hdK) (ob := K77.hdO) (M := 4200) (loose := K77.hdN) (d := HandSHeadRun.topDef (OpenLaw.row PySem.Challenge.rw_leastcomplaint_k77_dividends).prog 34) (kwd := []) K77.hdO_eq (by kernel_rfl) (fun s => by kernel_rfl) K77.hd_run (by kernel_rfl) (by kernel_rfl) (by kernel_rfl) (by rfl) (by first | assumption | decide +kernel) (by decide +kernel) ⟨rfl, rfl, rfl, rfl, rfl, by decide +kernel⟩ ?hw ?hc
  case hw => w_witness2
  case hc =>
    refine L2.walk_ofE (l := PySem.Challenge.rw_leastcomplaint_k77_dividends) (n := 63) (k := 9) (x := "_law_script") (CX := L2.CX0) rfl (by decide) (by kernel_rfl) ⟨rfl, by decide, by decide⟩ ?F (fun _ _ _ _ z => z)
    intro w mg fa h Y G hmg0
    obtain ⟨K, KX, c⟩ := Y
    have hmg : mg ("law" : PySem.Str) = some (.ref fa) := by
      have e : (HandSHeadRun.topDef (OpenLaw.row PySem.Challenge.rw_leastcomplaint_k77_dividends).prog 34).name = ("law" : PySem.Str) := by kernel_rfl
      rw [← e]
      exact hmg0
    obtain ⟨fd, hb, hF⟩ := K77.all_mk (w := w) KX G hmg c
    exact ⟨K, fd, DL.lift K fun ds m R => K77.m_law ds m R DL.NoX, KX, hb, fun H a ns hl _ hS => DL.law_start hS fun R hR => K77.main_law ns hl R hR, hF⟩


