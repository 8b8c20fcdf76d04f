import PyProof.Rows.All
import Wide.All
import OpenK.AllK
import Wide.FinOn
import HandS.ForMost
import HandS.ForExc
import HandS.Walk
import HandS.Zip
import HandS.Wide
import HandS.IsInst
import HandS.Flow
import HandS.Exc
import HandS.ExcField
import HandS.TryOnly
import HandS.WordsExc
import HandS.ExcInit
import HandS.Defaults
import KE.KExcSuper
import HandS.Words
import HandS.Head0
import HandS.Head1
import HandS.Head2
import HandS.HeadEnd
import HandS.HeadHook1
import HandS.HeadHook2
import KE.KExcPX
import PySem.Challenge.RW_leastcomplaint_k12_texts_of_ratios
import KE.DataEq
import HandS.CallSlots
import HandS.HotCalls
import HandS.TupLen
import HandS.Dict
import HandS.Iter
import HandS.TupSets
import HandS.SortInts
import HandS.Conv
import HandS.TupAny
import KE.KDictWalk
import KE.KDictKeyed
import KE.KDictPairs
import KE.KDictCopyH
import HandS.DictComp
import KE.KDictOf
import OpenK.KMeth
import KE.KOpsOwn
import KE.KIsAll
import HandS.TupLe
import HandS.SortRule
import KE.KSortTup
import HandS.Star
import HandS.TryMany
import KE.GoesMore
import HandS.IterVal
import KE.KOwnIter
import HandS.OwnIter
import HandS.Style
import HandS.Finally
import PyProof.DictMoreH
import PyProof.DictRoadsH
import PyProof.MeetsDictList
import KE.SortData
import KE.KUnpackStar
import KE.KItemsList
import KE.KDictZip
import KE.KeyNested
import PyProof.DictFindH
import HandS.Text
import HandS.FStr
import PyProof.StrBlock2
set_option Elab.async false
set_option linter.all false
set_option maxRecDepth 100000
set_option maxHeartbeats 4000000
namespace DL
open PySem PySem.Spec PyProof.Rows L2

/-! ### the head by one kernel run: all that the end leans on is read off the heap behind the top, as Bools and the defs' own texts -/
/-- a def in the body of a class -/
def inClassR (st : Stmt) (j : Nat) : Stmt := match st with
  | .ClassDef _ _ _ body _ _ _ _ _ _ _ => body.getD j (.Pass ⟨0, 0, 0, 0⟩)
  | _ => .Pass ⟨0, 0, 0, 0⟩
def clsB (K : PySem.W.Frag) (C : Addr) : Bool := match K.lookup C with
  | some ⟨.type t, _, .cls ⟨_, _, .ref a :: bm, _, _, hd, _, _, _, _, hdel⟩, sl⟩ => decide (t = "type") && (decide (a = C) && (PySem.HandSPX.refsVE bm && (hd && (!hdel && (match sl.toList with
      | [_, _, _, _, some (.builtin b), _] => decide (b = "ValueError.__new__")
      | _ => false)))))
  | _ => false
structure XcD where
  cls : Str
  qual : Str
  st : Stmt
abbrev XW : Type := Option (Str × Str × Arguments × FuncBody × Scope × Addr × List Str × Value × Addr)
def xW (K : PySem.W.Frag) (x : Str) : XW := match K.lookup (He.ma K (He.ga K x) "__init__") with
  | some ⟨_, _, .func fd, _⟩ => some (fd.name, fd.qualname, fd.params, fd.body, fd.scope, fd.globals, fd.closure.map (·.1), fd.defaults, fd.builtins)
  | _ => none
def XcD.val (d : XcD) : XW := some (("__init__" : Str), d.qual, defArgs d.st, FuncBody.stmts (defBody d.st), defScope d.st, mainGlobals, [("__class__" : Str)], Value.none, builtinsNs)
def codB (K : PySem.W.Frag) (file : Str) (C : Addr) (q : Str) (fd : FuncData) : Bool := PySem.W.codeIn K fd.code q && ((match fd.code with
  | .ref cda => (match K.lookup cda with
    | some ⟨_, _, .fields vs, _⟩ => (match (vs[2]? : Option Value) with
      | some (Value.str f _) => file == f
      | _ => false)
    | _ => false)
  | _ => false) && (match fd.closure with
  | [(_, cc)] => (match K.lookup cc with
    | some ⟨_, _, .cell (some (.ref c)), _⟩ => decide (c = C)
    | _ => false)
  | _ => false))
def xcB (K : PySem.W.Frag) (file : Str) (d : XcD) : Bool := clsB K (He.ga K d.cls) && (He.eqO (PySem.W.findIn K (.ref (He.ga K d.cls)) "__setattr__") (some (some (.builtin "object.__setattr__"))) &&
  (decide (PySem.W.subIn K (.ref (He.ga K d.cls)) (.type "BaseException") = some true) && (decide (PySem.W.typeIn K (.ref (He.ga K d.cls)) = some (.type "type")) && (PySem.W.keepIn K (.ref (He.ga K d.cls)) &&
  (He.eqO (PySem.W.findIn K (.ref (He.ga K d.cls)) "__init__") (some (some (.ref (He.ma K (He.ga K d.cls) "__init__")))) && (decide (PySem.W.typeIn K (.ref (He.ma K (He.ga K d.cls) "__init__")) = some (.type "function")) &&
  (He.eqO (PySem.W.ks_superIn K (He.ga K d.cls) (He.ga K d.cls) "__init__") (some (some (.builtin "ValueError.__init__"))) && (decide (PySem.W.mroIn K (He.ga K d.cls) (.ref (He.ga K d.cls)) = some true) &&
  (decide (PySem.W.subIn K (.ref (He.ga K d.cls)) (.type "ValueError") = some true) && (PySem.W.excInitIn K (He.ga K d.cls) [.type "ValueError", .type "Exception", .type "BaseException", .type "object"] "ValueError.__new__" &&
  (match K.lookup (He.ma K (He.ga K d.cls) "__init__") with
  | some ⟨_, _, .func fd, _⟩ => codB K file (He.ga K d.cls) d.qual fd
  | _ => false)))))))))))
def glB (K : PySem.W.Frag) (x : Str) (v : V) : Bool := match PySem.W.nsIn K mainGlobals x with
  | some (some u) => He.relB v u
  | _ => false
abbrev AlK : Type := Bool × (List He.FnW × List XW)
def obsK (file : Str) (fs : List (PySem.W.Frag → Bool)) (fn : List He.DefD) (xs : List XcD) (K : PySem.W.Frag) : AlK := ((fs.all fun f => f K) && ((fn.all fun d => d.ok K) && xs.all fun d => xcB K file d), fn.map (fun d => He.fnW K d.at_), xs.map fun d => xW K d.cls)
def valK (fn : List He.DefD) (xs : List XcD) : AlK := (true, fn.map He.DefD.val, xs.map XcD.val)
def SaysK (file : Str) (fs : List (PySem.W.Frag → Bool)) (fn : List He.DefD) (xs : List XcD) (K : PySem.W.Frag) : Prop := obsK file fs fn xs K = valK fn xs
def hookK (as : List Addr) (file : Str) (fs : List (PySem.W.Frag → Bool)) (fn : List He.DefD) (xs : List XcD) : PySem.W.Hook where
  α := AlK
  obs := fun s => obsK file fs fn xs (He.frG s.heap.get? as)
  val := fun _ => valK fn xs
  says := fun _ h => ∃ K : PySem.W.Frag, K.In h ∧ SaysK file fs fn xs K
  of := fun _ _ e => ⟨_, He.frG_in, e⟩
  keeps := fun _ _ _ ⟨K, hK, c⟩ k => ⟨K, PySem.W.Frag.In.keeps hK k, c⟩
theorem obsK_eq {as : List Addr} {file : Str} {fs : List (PySem.W.Frag → Bool)} {fn : List He.DefD} {xs : List XcD} {g : Addr → Option Obj} {s : Shared} (h : ∀ a, g a = s.heap.get? a) : obsK file fs fn xs (He.frG g as) = (hookK as file fs fn xs).obs s := by
  have e : g = s.heap.get? := funext h
  rw [e] <;> rfl
theorem run_of {r : PySem.W.OpenRow} {q : Program} {as : List Addr} {file : Str} {fs : List (PySem.W.Frag → Bool)} {fn : List He.DefD} {xs : List XcD} {M : Nat} {loose : List PySem.Str} {w : World}
    (h1 : ∀ os, (HandSHeadRun.endF (HandSHeadRun.stepQ (HandSHeadRun.denQ HandSHeadRun.tabQ) r.prog w) M r.prog w os).map (fun s => (HandSHeadRun.looksF r.prog (PySem.W.boot_heap w.params) s.abs, HandSHeadRun.seenQ q loose (importedModules r.prog.main.body) (fun s => PySem.W.xlAt q [] s && PySem.W.recOk r.toRowW.records s) s.abs)) = some (true, PySem.W.openGood q loose))
    (h2 : ∀ os, (HandSHeadRun.endF (HandSHeadRun.stepQ (HandSHeadRun.denQ HandSHeadRun.tabQ) r.prog w) M r.prog w os).map (fun s => fs.all fun f => f (He.frG (HandSHeadRun.getT s) as)) = some true)
    (h3 : ∀ os, (HandSHeadRun.endF (HandSHeadRun.stepQ (HandSHeadRun.denQ HandSHeadRun.tabQ) r.prog w) M r.prog w os).map (fun s => fn.all fun d => d.ok (He.frG (HandSHeadRun.getT s) as)) = some true)
    (h4 : ∀ os, (HandSHeadRun.endF (HandSHeadRun.stepQ (HandSHeadRun.denQ HandSHeadRun.tabQ) r.prog w) M r.prog w os).map (fun s => fn.map fun d => He.fnW (He.frG (HandSHeadRun.getT s) as) d.at_) = some (fn.map He.DefD.val))
    (h5 : ∀ os, (HandSHeadRun.endF (HandSHeadRun.stepQ (HandSHeadRun.denQ HandSHeadRun.tabQ) r.prog w) M r.prog w os).map (fun s => (xs.all fun d => xcB (He.frG (HandSHeadRun.getT s) as) file d, xs.map fun d => xW (He.frG (HandSHeadRun.getT s) as) d.cls)) = some (true, xs.map XcD.val)) :
    HandSHeadRun.RunEq r q (hookK as file fs fn xs) (fun s => obsK file fs fn xs (He.frG (HandSHeadRun.getT s) as)) M loose w := by
  intro os
  replace h1 := h1 os
  replace h2 := h2 os
  replace h3 := h3 os
  replace h4 := h4 os
  replace h5 := h5 os
  cases e : HandSHeadRun.endF (HandSHeadRun.stepQ (HandSHeadRun.denQ HandSHeadRun.tabQ) r.prog w) M r.prog w os with
  | none =>
    rw [e] at h1
    cases h1
  | some s =>
    rw [e] at h1 h2 h3 h4 h5
    have a1 := Prod.mk.inj (Option.some.inj h1)
    have a2 := Option.some.inj h2
    have a3 := Option.some.inj h3
    have a4 := Option.some.inj h4
    have a5 := Prod.mk.inj (Option.some.inj h5)
    dsimp only at a2 a3 a4
    have o : obsK file fs fn xs (He.frG (HandSHeadRun.getT s) as) = valK fn xs := by
      unfold obsK valK
      rw [a2, a3, a4, a5.1, a5.2]
      rfl
    show some (_, _, obsK file fs fn xs (He.frG (HandSHeadRun.getT s) as)) = _
    rw [o, a1.1, a1.2]
    rfl
end DL


namespace K12
open PySem PySem.Spec PyProof.Rows L2 DL
def rTop (i : Nat) : Stmt := PySem.Challenge.pw_leastcomplaint_k12_texts_of_ratios.main.body.getD i (.Pass ⟨0, 0, 0, 0⟩)
abbrev r_law_pool : Stmt := rTop 13
abbrev r_law_divisor : Stmt := rTop 15
abbrev r_law_ratio : Stmt := rTop 16
abbrev r_read_integer : Stmt := rTop 9
abbrev r_divisor : Stmt := rTop 7
abbrev r_ratio : Stmt := rTop 8
abbrev r_ratio_text : Stmt := rTop 10
abbrev r_read_ratio : Stmt := rTop 11
abbrev r_law_read : Stmt := rTop 19
abbrev r_law_take : Stmt := rTop 14
abbrev r_law_spoiled : Stmt := rTop 20
abbrev r_law_plain : Stmt := rTop 17
abbrev r_law_due : Stmt := rTop 18
abbrev r_law : Stmt := rTop 21
abbrev r_BadRatio__init__ : Stmt := DL.inClassR (rTop 2) 0
abbrev r_BadText__init__ : Stmt := DL.inClassR (rTop 3) 0
def hdD0 : He.DefD := ⟨("_law_pool", none), "_law_pool", "_law_pool", defArgs r_law_pool, defBody r_law_pool, defScope r_law_pool, [], []⟩
def hdD1 : He.DefD := ⟨("_law_divisor", none), "_law_divisor", "_law_divisor", defArgs r_law_divisor, defBody r_law_divisor, defScope r_law_divisor, [], []⟩
def hdD2 : He.DefD := ⟨("_law_ratio", none), "_law_ratio", "_law_ratio", defArgs r_law_ratio, defBody r_law_ratio, defScope r_law_ratio, [], []⟩
def hdD3 : He.DefD := ⟨("read_integer", none), "read_integer", "read_integer", defArgs r_read_integer, defBody r_read_integer, defScope r_read_integer, [], []⟩
def hdD4 : He.DefD := ⟨("divisor", none), "divisor", "divisor", defArgs r_divisor, defBody r_divisor, defScope r_divisor, [], []⟩
def hdD5 : He.DefD := ⟨("ratio", none), "ratio", "ratio", defArgs r_ratio, defBody r_ratio, defScope r_ratio, [.int 1], []⟩
def hdD6 : He.DefD := ⟨("ratio_text", none), "ratio_text", "ratio_text", defArgs r_ratio_text, defBody r_ratio_text, defScope r_ratio_text, [], []⟩
def hdD7 : He.DefD := ⟨("read_ratio", none), "read_ratio", "read_ratio", defArgs r_read_ratio, defBody r_read_ratio, defScope r_read_ratio, [], []⟩
def hdD8 : He.DefD := ⟨("_law_read", none), "_law_read", "_law_read", defArgs r_law_read, defBody r_law_read, defScope r_law_read, [], []⟩
def hdD9 : He.DefD := ⟨("_law_take", none), "_law_take", "_law_take", defArgs r_law_take, defBody r_law_take, defScope r_law_take, [], []⟩
def hdD10 : He.DefD := ⟨("_law_spoiled", none), "_law_spoiled", "_law_spoiled", defArgs r_law_spoiled, defBody r_law_spoiled, defScope r_law_spoiled, [], []⟩
def hdD11 : He.DefD := ⟨("_law_plain", none), "_law_plain", "_law_plain", defArgs r_law_plain, defBody r_law_plain, defScope r_law_plain, [], []⟩
def hdD12 : He.DefD := ⟨("_law_due", none), "_law_due", "_law_due", defArgs r_law_due, defBody r_law_due, defScope r_law_due, [], []⟩
def hdD13 : He.DefD := ⟨("law", none), "law", "law", defArgs r_law, defBody r_law, defScope r_law, [], []⟩
def hdC0 : XcD := ⟨"BadRatio", "BadRatio.__init__", r_BadRatio__init__⟩
def hdC1 : XcD := ⟨"BadText", "BadText.__init__", r_BadText__init__⟩
def hdF0_ : List (He.DefD) := [hdD0, hdD1, hdD2, hdD3, hdD4, hdD5, hdD6, hdD7, hdD8, hdD9, hdD10, hdD11, hdD12, hdD13]
def hdF : List (He.DefD) := hdF0_
def hdX0_ : List (XcD) := [hdC0, hdC1]
def hdX : List (XcD) := hdX0_
def hdB0_ : List (PySem.W.Frag → Bool) := [fun K => He.eqO (PySem.W.nsIn K mainGlobals "_law_pool") (some (some (.ref (He.ga K "_law_pool")))), fun K => PySem.W.keepIn K (.ref (He.ga K "_law_pool")), fun K => He.eqO (PySem.W.nsIn K mainGlobals "_law_divisor") (some (some (.ref (He.ga K "_law_divisor")))), fun K => PySem.W.keepIn K (.ref (He.ga K "_law_divisor")), fun K => He.eqO (PySem.W.nsIn K mainGlobals "_law_ratio") (some (some (.ref (He.ga K "_law_ratio")))), fun K => PySem.W.keepIn K (.ref (He.ga K "_law_ratio")), fun K => He.eqO (PySem.W.nsIn K mainGlobals "read_integer") (some (some (.ref (He.ga K "read_integer")))), fun K => PySem.W.keepIn K (.ref (He.ga K "read_integer")), fun K => He.eqO (PySem.W.nsIn K mainGlobals "divisor") (some (some (.ref (He.ga K "divisor")))), fun K => PySem.W.keepIn K (.ref (He.ga K "divisor")), fun K => He.eqO (PySem.W.nsIn K mainGlobals "ratio") (some (some (.ref (He.ga K "ratio")))), fun K => PySem.W.keepIn K (.ref (He.ga K "ratio")), fun K => He.eqO (PySem.W.nsIn K mainGlobals "ratio_text") (some (some (.ref (He.ga K "ratio_text")))), fun K => PySem.W.keepIn K (.ref (He.ga K "ratio_text")), fun K => He.eqO (PySem.W.nsIn K mainGlobals "read_ratio") (some (some (.ref (He.ga K "read_ratio")))), fun K => PySem.W.keepIn K (.ref (He.ga K "read_ratio")), fun K => He.eqO (PySem.W.nsIn K mainGlobals "_law_read") (some (some (.ref (He.ga K "_law_read")))), fun K => PySem.W.keepIn K (.ref (He.ga K "_law_read")), fun K => He.eqO (PySem.W.nsIn K mainGlobals "_law_take") (some (some (.ref (He.ga K "_law_take")))), fun K => PySem.W.keepIn K (.ref (He.ga K "_law_take")), fun K => He.eqO (PySem.W.nsIn K mainGlobals "_law_spoiled") (some (some (.ref (He.ga K "_law_spoiled")))), fun K => PySem.W.keepIn K (.ref (He.ga K "_law_spoiled")), fun K => He.eqO (PySem.W.nsIn K mainGlobals "_law_plain") (some (some (.ref (He.ga K "_law_plain")))), fun K => PySem.W.keepIn K (.ref (He.ga K "_law_plain")), fun K => He.eqO (PySem.W.nsIn K mainGlobals "_law_due") (some (some (.ref (He.ga K "_law_due")))), fun K => PySem.W.keepIn K (.ref (He.ga K "_law_due")), fun K => He.eqO (PySem.W.nsIn K mainGlobals "law") (some (some (.ref (He.ga K "law")))), fun K => PySem.W.keepIn K (.ref (He.ga K "law")), fun K => He.eqO (PySem.W.nsIn K mainGlobals "abs") (some none), fun K => He.eqO (PySem.W.nsIn K mainGlobals "all") (some none)]
def hdB1_ : List (PySem.W.Frag → Bool) := [fun K => He.eqO (PySem.W.nsIn K mainGlobals "int") (some none), fun K => He.eqO (PySem.W.nsIn K mainGlobals "len") (some none), fun K => He.eqO (PySem.W.nsIn K mainGlobals "list") (some none), fun K => He.eqO (PySem.W.nsIn K mainGlobals "max") (some none), fun K => He.eqO (PySem.W.nsIn K mainGlobals "range") (some none), fun K => He.eqO (PySem.W.nsIn K mainGlobals "str") (some none), fun K => He.eqO (PySem.W.nsIn K mainGlobals "BadRatio") (some (some (.ref (He.ga K "BadRatio")))), fun K => He.eqO (PySem.W.nsIn K mainGlobals "BadText") (some (some (.ref (He.ga K "BadText")))), fun K => He.eqO (PySem.W.nsIn K mainGlobals "DivisionError") (some (some (.ref (He.ga K "DivisionError")))), fun K => He.eqO (PySem.W.nsIn K mainGlobals "super") (some none), fun K => He.eqO (PySem.W.nsIn K cStatics "thirdparty.any") (some none), fun K => He.eqO (PySem.W.findIn K (.ref (He.ga K "BadRatio")) "bottom") (some none), fun K => decide (PySem.W.exmOne K (.ref (He.ga K "BadRatio")) (.ref (He.ga K "BadText")) = some false), fun K => decide (PySem.W.exmOne K (.ref (He.ga K "BadText")) (.ref (He.ga K "BadText")) = some true), fun K => decide (PySem.W.exmOne K (.ref (He.ga K "DivisionError")) (.ref (He.ga K "BadText")) = some false), fun K => glB K "DIGITS" (.str "0123456789"), fun K => glB K "LONGEST_TEXT" (.int 60)]
def hdB : List (PySem.W.Frag → Bool) := hdB0_ ++ hdB1_
def hdN0_ : List (PySem.Str) := ["DivisionError", "BadRatio", "BadText", "LONGEST_TEXT", "DIGITS", "divisor", "ratio", "read_integer", "ratio_text", "read_ratio", "_law_pool", "_law_take", "_law_divisor", "_law_ratio", "_law_plain", "_law_due", "_law_read", "_law_spoiled"]
def hdN : List (PySem.Str) := hdN0_
abbrev hdR : PySem.W.OpenRow := PySem.W.OpenLaw.row PySem.Challenge.rw_leastcomplaint_k12_texts_of_ratios
abbrev hdQ : Program := PySem.W.view hdR.prog [21]
def hdA : List Addr := mainGlobals :: List.range 464
abbrev hdK : PySem.W.Hook := hookK hdA PySem.Challenge.pw_leastcomplaint_k12_texts_of_ratios.main.file hdB hdF hdX
def hdO (s : PySem.W.SharedT) : AlK := obsK PySem.Challenge.pw_leastcomplaint_k12_texts_of_ratios.main.file hdB hdF hdX (He.frG (HandSHeadRun.getT s) hdA)
theorem hdO_eq (s : PySem.W.SharedT) : hdO s = hdK.obs s.abs := obsK_eq (HandSHeadRun.getT_eq s)
set_option maxHeartbeats 0 in
theorem hd_1 (w : World) (os : OsState) : (HandSHeadRun.endF (HandSHeadRun.stepQ (HandSHeadRun.denQ HandSHeadRun.tabQ) hdR.prog w) 2640 hdR.prog w os).map (fun s => (HandSHeadRun.looksF hdR.prog (PySem.W.boot_heap w.params) s.abs, HandSHeadRun.seenQ hdQ hdN (importedModules hdR.prog.main.body) (fun s => PySem.W.xlAt hdQ [] s && PySem.W.recOk hdR.toRowW.records s) s.abs)) = some (true, PySem.W.openGood hdQ hdN) := by
  kernel_rfl
set_option maxHeartbeats 0 in
theorem hd_2 (w : World) (os : OsState) : (HandSHeadRun.endF (HandSHeadRun.stepQ (HandSHeadRun.denQ HandSHeadRun.tabQ) hdR.prog w) 2640 hdR.prog w os).map (fun s => hdB.all fun f => f (He.frG (HandSHeadRun.getT s) hdA)) = some true := by
  kernel_rfl
set_option maxHeartbeats 0 in
theorem hd_3 (w : World) (os : OsState) : (HandSHeadRun.endF (HandSHeadRun.stepQ (HandSHeadRun.denQ HandSHeadRun.tabQ) hdR.prog w) 2640 hdR.prog w os).map (fun s => hdF.all fun d => d.ok (He.frG (HandSHeadRun.getT s) hdA)) = some true := by
  kernel_rfl
set_option maxHeartbeats 0 in
theorem hd_4 (w : World) (os : OsState) : (HandSHeadRun.endF (HandSHeadRun.stepQ (HandSHeadRun.denQ HandSHeadRun.tabQ) hdR.prog w) 2640 hdR.prog w os).map (fun s => hdF.map fun d => He.fnW (He.frG (HandSHeadRun.getT s) hdA) d.at_) = some (hdF.map He.DefD.val) := by
  kernel_rfl
set_option maxHeartbeats 0 in
theorem hd_5 (w : World) (os : OsState) : (HandSHeadRun.endF (HandSHeadRun.stepQ (HandSHeadRun.denQ HandSHeadRun.tabQ) hdR.prog w) 2640 hdR.prog w os).map (fun s => (hdX.all fun d => xcB (He.frG (HandSHeadRun.getT s) hdA) PySem.Challenge.pw_leastcomplaint_k12_texts_of_ratios.main.file d, hdX.map fun d => xW (He.frG (HandSHeadRun.getT s) hdA) d.cls)) = some (true, hdX.map XcD.val) := by
  kernel_rfl
theorem hd_run (w : World) : HandSHeadRun.RunEq hdR hdQ hdK hdO 2640 hdN w := run_of (hd_1 w) (hd_2 w) (hd_3 w) (hd_4 w) (hd_5 w)
end K12


namespace DL
open PySem PySem.Spec PyProof.Rows L2

/-- data: what a value stands for -/
inductive D where
  | non | bl (b : Bool) | int (i : Int) | str (x : Str) | ty (n : String)
  | lst (xs : List D) | tup (xs : List D) | lsk (xs : List D)
  | dI (ks : List (List Int)) (vs : List D) | dK (ks : List Key) (vs : List D)
  | obj (nm : Str) (ns : List Str) (vs : List D)
  | ref (a : Addr)
  | exc (a dd : Addr) (f : Str) (x : D)
  | cls (n : Str)
  | dO (ks : List (List Int)) (vs : List D) (k : D) (v : D)

abbrev Frag := PySem.W.Frag
/-- a thing known by its one object -/
def objO (a : Addr) (o : Obj) : HO := .ext fun h => h.get? a = some o
/-- a dict whose keys are tuples of ints -/
def hI (k : List Int) : Int := reduceHash (Builtin.Tuple.tupleHashOf (k.map hashInt))
def entI (x : List Int × Addr × Value) : DictEntry := ⟨hI x.1, .ref x.2.1, x.2.2⟩
structure DictObj (a : Addr) (o : Obj) (xs : List (List Int × Addr × Value)) : Prop where
  ex : o.ExactDict
  dat : ∃ ep, o.data = .dict (xs.map entI).toArray ep
  nod : (xs.map (·.1)).Nodup
  len : xs.length ≤ sizeLine
  sys : (a == sysModules) = false
/-- such a dict with one more key of another kind at its end -/
structure OddObj (a : Addr) (o : Obj) (xs : List (List Int × Addr × Value)) (h : Int) (kv val : Value) : Prop where
  ex : o.ExactDict
  dat : ∃ ep, o.data = .dict (xs.map entI ++ [DictEntry.mk h kv val]).toArray ep
  nod : (xs.map (·.1)).Nodup
  len : xs.length + 1 ≤ sizeLine
  sys : (a == sysModules) = false
def bitI (b : Bool) : Int := if b = true then 1 else 0
def oddK : D → Prop
  | .str _ => True
  | .int _ => True
  | .non => True
  | .tup [.bl _] => True
  | _ => False
structure OddOk (ks : List (List Int)) (k : D) (h : Int) : Prop where
  odd : oddK k
  bits : ∀ b, k = .tup [.bl b] → [bitI b] ∉ ks ∧ h = hI [bitI b]

mutual
inductive Den (K : Frag) (F : Hp) : V → D → Prop
  | non : Den K F .non .non
  | bl (b : Bool) : Den K F (.bl b) (.bl b)
  | int (i : Int) : Den K F (.int i) (.int i)
  | str (x : Str) : Den K F (.str x) (.str x)
  | ty (n : String) : Den K F (.ty n) (.ty n)
  | lst {a : Addr} {xs : List V} {ds : List D} : Rd F a (.lst xs) → Dens K F xs ds → Den K F (.ref a) (.lst ds)
  | tup {a : Addr} {xs : List V} {ds : List D} : SqT K F a xs → Dens K F xs ds → Den K F (.ref a) (.tup ds)
  | lsk {a : Addr} {xs : List V} {ds : List D} : SqL K F a xs → Dens K F xs ds → Den K F (.ref a) (.lsk ds)
  | dI {a : Addr} {o : Obj} {xs : List (List Int × Addr × Value)} {vs : List V} {ks : List (List Int)} {ds : List D} : F a = some (objO a o) → DictObj a o xs → xs.map (·.1) = ks → (∀ x ∈ xs, SqT K F x.2.1 (x.1.map V.int)) → Vals vs (xs.map (·.2.2)) → Dens K F vs ds → Den K F (.ref a) (.dI ks ds)
  | dK {a : Addr} {kvs : List (Key × V)} {ks : List Key} {ds : List D} : Rd F a (.dK kvs) → kvs.map (·.1) = ks → Dens K F (kvs.map (·.2)) ds → Den K F (.ref a) (.dK ks ds)
  | obj {a C dx : Addr} {fs : List (Str × V)} {nm : Str} {ns : List Str} {ds : List D} : F a = some (.ins C dx fs) → PySem.W.nsIn K mainGlobals nm = some (some (.ref C)) → fs.map (·.1) = ns → Dens K F (fs.map (·.2)) ds → Den K F (.ref a) (.obj nm ns ds)
  | ref (a : Addr) : Den K F (.ref a) (.ref a)
  | exc {a dd : Addr} {f : Str} {v : V} {x : D} : F dd = some (.xd [(f, v)]) → Den K F v x → Den K F (.ref a) (.exc a dd f x)
  | cls {C : Addr} {n : Str} : PySem.W.nsIn K mainGlobals n = some (some (.ref C)) → Den K F (.ref C) (.cls n)
  | dO {a : Addr} {o : Obj} {xs : List (List Int × Addr × Value)} {h : Int} {kv val : Value} {kV vV : V} {vs : List V} {ks : List (List Int)} {ds : List D} {k d : D} : F a = some (objO a o) → OddObj a o xs h kv val → xs.map (·.1) = ks → (∀ x ∈ xs, SqT K F x.2.1 (x.1.map V.int)) → Vals vs (xs.map (·.2.2)) → Dens K F vs ds → OddOk ks k h → RelV kV kv → Den K F kV k → RelV vV val → Den K F vV d → Den K F (.ref a) (.dO ks ds k d)
inductive Dens (K : Frag) (F : Hp) : List V → List D → Prop
  | nil : Dens K F [] []
  | cons {v : V} {vs : List V} {d : D} {ds : List D} : Den K F v d → Dens K F vs ds → Dens K F (v :: vs) (d :: ds)
end

def Ex (H H' : Hp) : Prop := ∀ a o, H a = some o → H' a = some o
theorem Ex.refl (H : Hp) : Ex H H := fun _ _ h => h
theorem Ex.trans {H H1 H2 : Hp} (a : Ex H H1) (b : Ex H1 H2) : Ex H H2 := fun x o h => b x o (a x o h)
theorem Ex.new {H : Hp} {p : Addr} {o : HO} (h : H p = none) : Ex H (upd H p o) := fun a u e => by
  rw [upd_ne (ne_of_none e h)]
  exact e
theorem Ex.rd {H H' : Hp} {a : Addr} {u : HO} (e : Ex H H') (h : Rd H a u) : Rd H' a u := by
  rcases h with h | ⟨o, h⟩
  · exact .inl (e a _ h)
  · exact .inr ⟨o, e a _ h⟩
theorem Ex.sqL {K : Frag} {H H' : Hp} {a : Addr} {xs : List V} (e : Ex H H') (h : SqL K H a xs) : SqL K H' a xs := by
  rcases h with h | h
  · exact .inl (e.rd h)
  · exact .inr h
theorem Ex.sqT {K : Frag} {H H' : Hp} {a : Addr} {xs : List V} (e : Ex H H') (h : SqT K H a xs) : SqT K H' a xs := by
  rcases h with h | h
  · exact .inl (e.rd h)
  · exact .inr h
theorem Ex.free {H H' : Hp} {p : Addr} (e : Ex H H') (h : H' p = none) : H p = none := by
  cases h1 : H p with
  | none => rfl
  | some o => rw [e p o h1] at h; cases h

mutual
theorem Den.mono {K : Frag} {F F' : Hp} (e : Ex F F') : ∀ {v : V} {d : D}, Den K F v d → Den K F' v d
  | _, _, .non => .non
  | _, _, .bl b => .bl b
  | _, _, .int i => .int i
  | _, _, .str x => .str x
  | _, _, .ty n => .ty n
  | _, _, .lst h hs => .lst (e.rd h) (Dens.mono e hs)
  | _, _, .tup h hs => .tup (e.sqT h) (Dens.mono e hs)
  | _, _, .lsk h hs => .lsk (e.sqL h) (Dens.mono e hs)
  | _, _, .dI h ho hk ht hv hs => .dI (e _ _ h) ho hk (fun x hx => e.sqT (ht x hx)) hv (Dens.mono e hs)
  | _, _, .dK h hk hs => .dK (e.rd h) hk (Dens.mono e hs)
  | _, _, .obj h hn hk hs => .obj (e _ _ h) hn hk (Dens.mono e hs)
  | _, _, .ref a => .ref a
  | _, _, .exc h q => .exc (e _ _ h) (Den.mono e q)
  | _, _, .cls h => .cls h
  | _, _, .dO h ho hk ht hv hs ok rk qk rv qv => .dO (e _ _ h) ho hk (fun x hx => e.sqT (ht x hx)) hv (Dens.mono e hs) ok rk (Den.mono e qk) rv (Den.mono e qv)
theorem Dens.mono {K : Frag} {F F' : Hp} (e : Ex F F') : ∀ {vs : List V} {ds : List D}, Dens K F vs ds → Dens K F' vs ds
  | _, _, .nil => .nil
  | _, _, .cons h hs => .cons (Den.mono e h) (Dens.mono e hs)
end
section
variable {K : Frag} {F : Hp}
theorem Dens.length : ∀ {vs : List V} {ds : List D}, Dens K F vs ds → vs.length = ds.length
  | _, _, .nil => rfl
  | _, _, .cons _ hs => by rw [List.length_cons, List.length_cons, Dens.length hs]
theorem Dens.get : ∀ {vs : List V} {ds : List D} {i : Nat} {d : D}, Dens K F vs ds → ds[i]? = some d → ∃ v, vs[i]? = some v ∧ Den K F v d
  | _, _, _, _, .nil, e => by simp at e
  | _, _, 0, _, .cons h _, e => by simp at e; subst e; exact ⟨_, rfl, h⟩
  | _, _, i + 1, d, .cons _ hs, e => by
    obtain ⟨v, h1, h2⟩ := Dens.get (i := i) (d := d) hs (by simpa using e)
    exact ⟨v, by simpa using h1, h2⟩
theorem Dens.getV : ∀ {vs : List V} {ds : List D} {i : Nat} {v : V}, Dens K F vs ds → vs[i]? = some v → ∃ d, ds[i]? = some d ∧ Den K F v d
  | _, _, _, _, .nil, e => by simp at e
  | _, _, 0, _, .cons h _, e => by simp at e; subst e; exact ⟨_, rfl, h⟩
  | _, _, i + 1, v, .cons _ hs, e => by
    obtain ⟨d, h1, h2⟩ := Dens.getV (i := i) (v := v) hs (by simpa using e)
    exact ⟨d, by simpa using h1, h2⟩
theorem Dens.append : ∀ {vs ws : List V} {ds es : List D}, Dens K F vs ds → Dens K F ws es → Dens K F (vs ++ ws) (ds ++ es)
  | _, _, _, _, .nil, s => s
  | _, _, _, _, .cons h t, s => .cons h (Dens.append t s)
theorem Dens.snoc {vs : List V} {ds : List D} {v : V} {d : D} (h : Dens K F vs ds) (h1 : Den K F v d) : Dens K F (vs ++ [v]) (ds ++ [d]) := h.append (.cons h1 .nil)
theorem Dens.set : ∀ {vs : List V} {ds : List D} {v : V} {d : D} (i : Nat), Dens K F vs ds → Den K F v d → Dens K F (vs.set i v) (ds.set i d)
  | _, _, _, _, _, .nil, _ => .nil
  | _, _, _, _, 0, .cons _ t, h => .cons h t
  | _, _, _, _, i + 1, .cons q t, h => .cons q (Dens.set i t h)
theorem Dens.take : ∀ {vs : List V} {ds : List D} (n : Nat), Dens K F vs ds → Dens K F (vs.take n) (ds.take n)
  | _, _, 0, _ => .nil
  | _, _, _ + 1, .nil => .nil
  | _, _, n + 1, .cons r t => .cons r (Dens.take n t)
theorem Dens.drop : ∀ {vs : List V} {ds : List D} (n : Nat), Dens K F vs ds → Dens K F (vs.drop n) (ds.drop n)
  | _, _, 0, r => r
  | _, _, _ + 1, .nil => .nil
  | _, _, n + 1, .cons _ t => Dens.drop n t
theorem Dens.ints : ∀ {ns : List Int} {vs : List V}, Dens K F vs (ns.map D.int) → vs = ns.map V.int
  | [], _, .nil => rfl
  | n :: ns, _, .cons (.int _) t => by rw [Dens.ints t]; rfl
theorem Dens.of_ints : ∀ {ns : List Int}, Dens K F (ns.map V.int) (ns.map D.int)
  | [] => .nil
  | n :: ns => .cons (.int n) Dens.of_ints
theorem Dens.bls : ∀ {bs : List Bool} {vs : List V}, Dens K F vs (bs.map D.bl) → vs = bs.map V.bl
  | [], _, .nil => rfl
  | b :: bs, _, .cons (.bl _) t => by rw [Dens.bls t]; rfl
theorem Dens.of_strs : ∀ {ns : List Str}, Dens K F (ns.map V.str) (ns.map D.str)
  | [] => .nil
  | n :: ns => .cons (.str n) Dens.of_strs
end

/-! ### the ledger: objects that may change -/
inductive MO where
  | lst (ds : List D)
  | ins (nm : Str) (dx : Addr) (ns : List Str) (ds : List D)
  | own (x : Addr)
  | dI (ks : List (List Int)) (ds : List D)
  | dK (ks : List Key) (ds : List D)
  | dO (ks : List (List Int)) (ds : List D) (k : D) (d : D)
abbrev Led := List (Addr × MO)
def MDen (K : Frag) (F : Hp) (a : Addr) : MO → HO → Prop
  | .lst ds, h => ∃ xs, h = .lst xs ∧ Dens K F xs ds
  | .ins nm dx ns ds, h => ∃ (C : Addr) (fs : List (Str × V)), h = .ins C dx fs ∧ PySem.W.nsIn K mainGlobals nm = some (some (.ref C)) ∧ fs.map (·.1) = ns ∧ Dens K F (fs.map (·.2)) ds
  | .own x, h => h = .own x
  | .dI ks ds, h => ∃ (o : Obj) (xs : List (List Int × Addr × Value)) (vs : List V), h = objO a o ∧ DictObj a o xs ∧ xs.map (·.1) = ks ∧ (∀ x ∈ xs, SqT K F x.2.1 (x.1.map V.int)) ∧ Vals vs (xs.map (·.2.2)) ∧ Dens K F vs ds
  | .dK ks ds, h => ∃ kvs : List (Key × V), h = .dK kvs ∧ kvs.map (·.1) = ks ∧ Dens K F (kvs.map (·.2)) ds
  | .dO ks ds k d, h => ∃ (o : Obj) (xs : List (List Int × Addr × Value)) (hh : Int) (kv val : Value) (kV vV : V) (vs : List V), h = objO a o ∧ OddObj a o xs hh kv val ∧ xs.map (·.1) = ks ∧ (∀ x ∈ xs, SqT K F x.2.1 (x.1.map V.int)) ∧ Vals vs (xs.map (·.2.2)) ∧ Dens K F vs ds ∧ OddOk ks k hh ∧ RelV kV kv ∧ Den K F kV k ∧ RelV vV val ∧ Den K F vV d
theorem MDen.mono {K : Frag} {F F' : Hp} {a : Addr} (e : Ex F F') : ∀ {o : MO} {h : HO}, MDen K F a o h → MDen K F' a o h
  | .lst _, _, ⟨xs, q, hs⟩ => ⟨xs, q, hs.mono e⟩
  | .ins .., _, ⟨C, fs, q, n, k, hs⟩ => ⟨C, fs, q, n, k, hs.mono e⟩
  | .own _, _, q => q
  | .dI .., _, ⟨o, xs, vs, q, d, k, t, v, hs⟩ => ⟨o, xs, vs, q, d, k, fun x hx => e.sqT (t x hx), v, hs.mono e⟩
  | .dK .., _, ⟨fs, q, k, hs⟩ => ⟨fs, q, k, hs.mono e⟩
  | .dO .., _, ⟨o, xs, hh, kv, val, kV, vV, vs, q, d, k, t, v, hs, ok, rk, qk, rv, qv⟩ => ⟨o, xs, hh, kv, val, kV, vV, vs, q, d, k, fun x hx => e.sqT (t x hx), v, hs.mono e, ok, rk, qk.mono e, rv, qv.mono e⟩

abbrev keys (m : Led) : List Addr := m.map (·.1)
structure At (K : Frag) (F : Hp) (m : Led) (H : Hp) : Prop where
  sub : Ex F H
  led : ∀ p ∈ m, ∃ h, MDen K F p.1 p.2 h ∧ H p.1 = some h
  dis : ∀ p ∈ m, F p.1 = none
  nod : (keys m).Nodup
structure Step (K : Frag) (F : Hp) (m : Led) (H : Hp) (F2 : Hp) (m2 : Led) (H2 : Hp) : Prop where
  at2 : At K F2 m2 H2
  ex : Ex F F2
  keep : ∀ a o, H a = some o → a ∉ keys m → H2 a = some o
  frF : ∀ a o, F2 a = some o → F a = none → H a = none ∨ a ∈ keys m
  frM : ∀ a ∈ keys m2, a ∈ keys m ∨ H a = none
section
variable {K : Frag} {F F1 F2 H H1 H2 : Hp} {m m1 m2 : Led}
theorem Step.refl (a : At K F m H) : Step K F m H F m H := ⟨a, Ex.refl _, fun _ _ h _ => h, fun a o h n => (by rw [n] at h; cases h), fun _ h => .inl h⟩
theorem Step.trans (a : Step K F m H F1 m1 H1) (b : Step K F1 m1 H1 F2 m2 H2) : Step K F m H F2 m2 H2 := by
  have nk : ∀ x o, H x = some o → x ∉ keys m → x ∉ keys m1 := fun x o h n z => by
    rcases a.frM x z with q | q
    · exact n q
    · rw [h] at q; cases q
  have nn : ∀ x, H1 x = none → H x = none ∨ x ∈ keys m := fun x h => by
    by_cases n : x ∈ keys m
    · exact .inr n
    · left
      cases q : H x with
      | none => rfl
      | some o => rw [a.keep x o q n] at h; cases h
  refine ⟨b.at2, a.ex.trans b.ex, fun x o h n => b.keep x o (a.keep x o h n) (nk x o h n), fun x o h n => ?_, fun x h => ?_⟩
  · cases q : F1 x with
    | some o1 => exact a.frF x o1 q n
    | none =>
      rcases b.frF x o h q with z | z
      · exact nn x z
      · exact (a.frM x z).symm
  · rcases b.frM x h with z | z
    · exact a.frM x z
    · exact (nn x z).symm
/-- a new frozen object -/
theorem Step.new {p : Addr} {o : HO} (a : At K F m H) (h : H p = none) : Step K F m H (upd F p o) m (upd H p o) := by
  have hF : F p = none := a.sub.free h
  have np : p ∉ keys m := fun z => by
    obtain ⟨q, hq, e⟩ := List.mem_map.mp z
    obtain ⟨hh, _, e2⟩ := a.led q hq
    rw [e, h] at e2; cases e2
  refine ⟨⟨fun x u e => ?_, fun q hq => ?_, fun q hq => ?_, a.nod⟩, Ex.new hF, fun x u e _ => by rw [upd_ne (ne_of_none e h)]; exact e, fun x u e n => ?_, fun x h => .inl h⟩
  · by_cases hx : x = p
    · subst hx; rw [upd_same] at e ⊢; exact e
    · rw [upd_ne hx] at e ⊢; exact a.sub x u e
  · obtain ⟨hh, e1, e2⟩ := a.led q hq
    exact ⟨hh, e1.mono (Ex.new hF), by rw [upd_ne (ne_of_none e2 h)]; exact e2⟩
  · have : q.1 ≠ p := fun z => np (z ▸ List.mem_map.mpr ⟨q, hq, rfl⟩)
    rw [upd_ne this]; exact a.dis q hq
  · by_cases hx : x = p
    · subst hx; exact .inl h
    · rw [upd_ne hx, n] at e; cases e
/-- a new object in the ledger -/
theorem Step.newM {p : Addr} {o : HO} {mo : MO} (a : At K F m H) (h : H p = none) (hm : MDen K F p mo o) : Step K F m H F (m ++ [(p, mo)]) (upd H p o) := by
  have hF : F p = none := a.sub.free h
  have np : p ∉ keys m := fun z => by
    obtain ⟨q, hq, e⟩ := List.mem_map.mp z
    obtain ⟨hh, _, e2⟩ := a.led q hq
    rw [e, h] at e2; cases e2
  refine ⟨⟨fun x u e => ?_, fun q hq => ?_, fun q hq => ?_, ?_⟩, Ex.refl _, fun x u e _ => by rw [upd_ne (ne_of_none e h)]; exact e, fun x u e n => (by rw [n] at e; cases e), fun x hx => ?_⟩
  · rw [upd_ne (ne_of_none e hF)]; exact a.sub x u e
  · rcases List.mem_append.mp hq with hq | hq
    · obtain ⟨hh, e1, e2⟩ := a.led q hq
      exact ⟨hh, e1, by rw [upd_ne (ne_of_none e2 h)]; exact e2⟩
    · obtain rfl : q = (p, mo) := by simpa using hq
      exact ⟨o, hm, upd_same⟩
  · rcases List.mem_append.mp hq with hq | hq
    · exact a.dis q hq
    · obtain rfl : q = (p, mo) := by simpa using hq
      exact hF
  · show (List.map (·.1) (m ++ [(p, mo)])).Nodup
    rw [List.map_append]
    refine List.nodup_append.mpr ⟨a.nod, by simp, fun x hx y hy => ?_⟩
    obtain rfl : y = p := by simpa using hy
    exact fun z => np (z ▸ hx)
  · have hx' : x ∈ List.map (·.1) (m ++ [(p, mo)]) := hx
    rw [List.map_append] at hx'
    rcases List.mem_append.mp hx' with q | q
    · exact .inl q
    · obtain rfl : x = p := by simpa using q
      exact .inr h
theorem At.get {i : Nat} {p : Addr} {o : MO} (a : At K F m H) (h : m[i]? = some (p, o)) : ∃ hh, MDen K F p o hh ∧ H p = some hh := a.led (p, o) (List.mem_of_getElem? h)
theorem keys_set {i : Nat} {p : Addr} {o o' : MO} (h : m[i]? = some (p, o)) : keys (m.set i (p, o')) = keys m := by
  show List.map (·.1) (m.set i (p, o')) = _
  rw [List.map_set]
  apply List.ext_getElem?
  intro j
  by_cases hj : i = j
  · subst hj
    have hl : i < m.length := (List.getElem?_eq_some_iff.mp h).1
    rw [List.getElem?_set_self (by simpa using hl), List.getElem?_map, h]; rfl
  · rw [List.getElem?_set_ne hj]
/-- an object of the ledger written -/
theorem Step.write {i : Nat} {p : Addr} {o o' : MO} {u : HO} (a : At K F m H) (h : m[i]? = some (p, o)) (hm : MDen K F p o' u) : Step K F m H F (m.set i (p, o')) (upd H p u) := by
  have hin : (p, o) ∈ m := List.mem_of_getElem? h
  have hF : F p = none := a.dis _ hin
  have pk : p ∈ keys m := List.mem_map.mpr ⟨_, hin, rfl⟩
  have hl : i < m.length := (List.getElem?_eq_some_iff.mp h).1
  have ek := keys_set (o' := o') h
  refine ⟨⟨fun x u e => ?_, fun q hq => ?_, fun q hq => ?_, by rw [ek]; exact a.nod⟩, Ex.refl _, fun x u e n => ?_, fun x u e n => (by rw [n] at e; cases e), fun x hx => .inl (ek ▸ hx)⟩
  · rw [upd_ne (ne_of_none e hF)]; exact a.sub x u e
  · obtain ⟨j, hj⟩ := List.mem_iff_getElem?.mp hq
    by_cases hij : i = j
    · subst hij
      rw [List.getElem?_set_self hl] at hj
      cases hj
      exact ⟨u, hm, upd_same⟩
    · rw [List.getElem?_set_ne hij] at hj
      obtain ⟨hh, e1, e2⟩ := a.led q (List.mem_of_getElem? hj)
      have : q.1 ≠ p := fun z => by
        have k1 : (keys m)[j]? = some p := by rw [List.getElem?_map, hj]; exact congrArg some z
        have k2 : (keys m)[i]? = some p := by rw [List.getElem?_map, h]; rfl
        exact hij (nd_ix a.nod k2 k1)
      exact ⟨hh, e1, by rw [upd_ne this]; exact e2⟩
  · obtain ⟨j, hj⟩ := List.mem_iff_getElem?.mp hq
    by_cases hij : i = j
    · subst hij
      rw [List.getElem?_set_self hl] at hj
      cases hj
      exact hF
    · rw [List.getElem?_set_ne hij] at hj
      exact a.dis q (List.mem_of_getElem? hj)
  · have : x ≠ p := fun z => n (z ▸ pk)
    rw [upd_ne this]; exact e
/-- part of the ledger forgotten -/
theorem Step.drop (a : At K F m H) (h : m2.Sublist m) : Step K F m H F m2 H :=
  ⟨⟨a.sub, fun p hp => a.led p (h.subset hp), fun p hp => a.dis p (h.subset hp), a.nod.sublist (h.map _)⟩, Ex.refl _, fun _ _ e _ => e, fun x u e n => (by rw [n] at e; cases e),
    fun x hx => .inl ((h.map _).subset hx)⟩
/-- a list of the ledger frozen -/
theorem Step.freeze {i : Nat} {p : Addr} {ds : List D} (a : At K F m H) (h : m[i]? = some (p, .lst ds)) : ∃ F2, Step K F m H F2 (m.eraseIdx i) H ∧ Den K F2 (.ref p) (.lst ds) := by
  obtain ⟨hh, ⟨xs, rfl, hs⟩, e⟩ := a.get h
  have hin : (p, MO.lst ds) ∈ m := List.mem_of_getElem? h
  have hF : F p = none := a.dis _ hin
  have sl : (m.eraseIdx i).Sublist m := List.eraseIdx_sublist ..
  refine ⟨upd F p (.lst xs), ⟨⟨fun x u q => ?_, fun q hq => ?_, fun q hq => ?_, a.nod.sublist (sl.map _)⟩, Ex.new hF, fun _ _ e _ => e, fun x u q n => ?_, fun x hx => .inl ((sl.map _).subset hx)⟩, .lst (.inl upd_same) (hs.mono (Ex.new hF))⟩
  · by_cases hx : x = p
    · subst hx; rw [upd_same] at q; cases q; exact e
    · rw [upd_ne hx] at q; exact a.sub x u q
  · obtain ⟨hh, e1, e2⟩ := a.led q (sl.subset hq)
    exact ⟨hh, e1.mono (Ex.new hF), e2⟩
  · have : q.1 ≠ p := fun z => by
      obtain ⟨j, hj⟩ := List.mem_iff_getElem?.mp hq
      rw [List.getElem?_eraseIdx] at hj
      split at hj
      · have k1 : (keys m)[j]? = some p := by rw [List.getElem?_map, hj]; exact congrArg some z
        have k2 : (keys m)[i]? = some p := by rw [List.getElem?_map, h]; rfl
        have := nd_ix a.nod k2 k1
        omega
      · have k1 : (keys m)[j + 1]? = some p := by rw [List.getElem?_map, hj]; exact congrArg some z
        have k2 : (keys m)[i]? = some p := by rw [List.getElem?_map, h]; rfl
        have := nd_ix a.nod k2 k1
        omega
    rw [upd_ne this]; exact a.dis q (sl.subset hq)
  · by_cases hx : x = p
    · subst hx; exact .inr (List.mem_map.mpr ⟨_, hin, rfl⟩)
    · rw [upd_ne hx, n] at q; cases q
end
/-- a list that may be read: frozen or of the ledger -/
def LstV (m : Led) (d : D) (ds : List D) : Prop := d = .lst ds ∨ ∃ (i : Nat) (a : Addr), d = .ref a ∧ m[i]? = some (a, .lst ds)
theorem LstV.read {K : Frag} {F H : Hp} {m : Led} {d : D} {ds : List D} {v : V} (h : LstV m d ds) (a : At K F m H) (q : Den K F v d) : ∃ p xs, v = .ref p ∧ Rd H p (.lst xs) ∧ Dens K F xs ds := by
  rcases h with rfl | ⟨i, p, rfl, hi⟩
  · cases q with
    | lst h hs => exact ⟨_, _, rfl, a.sub.rd h, hs⟩
  · cases q
    obtain ⟨hh, ⟨xs, rfl, hs⟩, e⟩ := a.get hi
    exact ⟨p, xs, rfl, .inl e, hs⟩
theorem tup_read {K : Frag} {F H : Hp} {m : Led} {ds : List D} {v : V} (a : At K F m H) (q : Den K F v (.tup ds)) : ∃ p xs, v = .ref p ∧ SqT K H p xs ∧ Dens K F xs ds := by
  cases q with
  | tup h hs => exact ⟨_, _, rfl, a.sub.sqT h, hs⟩

/-! ### slots -/
abbrev Rho := List (Option D)
structure Envs (K : Frag) (F : Hp) (σ : L2.St) (ρ : Rho) : Prop where
  len : σ.length = ρ.length
  get : ∀ (i : Nat) (d : D), ρ[i]? = some (some d) → ∃ v, σ[i]? = some (some v) ∧ Den K F v d
theorem Envs.mono {K : Frag} {F F' : Hp} {σ : L2.St} {ρ : Rho} (h : Envs K F σ ρ) (e : Ex F F') : Envs K F' σ ρ := ⟨h.len, fun i d q => let ⟨v, a, b⟩ := h.get i d q; ⟨v, a, b.mono e⟩⟩
theorem Envs.set {K : Frag} {F : Hp} {σ : L2.St} {ρ : Rho} {v : V} {d : D} (h : Envs K F σ ρ) (q : Den K F v d) (i : Nat) : Envs K F (σ.set i (some v)) (ρ.set i (some d)) := by
  refine ⟨by simpa using h.len, fun j e hj => ?_⟩
  by_cases hij : i = j
  · subst hij
    by_cases hl : i < ρ.length
    · rw [List.getElem?_set_self hl] at hj
      cases hj
      exact ⟨v, by rw [List.getElem?_set_self (by rw [h.len]; exact hl)], q⟩
    · rw [List.getElem?_eq_none (by simpa using hl)] at hj; cases hj
  · rw [List.getElem?_set_ne hij] at hj ⊢
    exact h.get j e hj
def wipeD (ρ : Rho) : List Nat → Rho
  | [] => ρ
  | v :: vs => (wipeD ρ vs).set v none
theorem Envs.unset {K : Frag} {F : Hp} {σ : L2.St} {ρ : Rho} (h : Envs K F σ ρ) (i : Nat) : Envs K F (σ.set i none) (ρ.set i none) := by
  refine ⟨by simpa using h.len, fun j e hj => ?_⟩
  by_cases hij : i = j
  · subst hij
    by_cases hl : i < ρ.length
    · rw [List.getElem?_set_self hl] at hj; cases hj
    · rw [List.getElem?_eq_none (by simpa using hl)] at hj; cases hj
  · rw [List.getElem?_set_ne hij] at hj ⊢
    exact h.get j e hj
theorem Envs.wipe {K : Frag} {F : Hp} {σ : L2.St} {ρ : Rho} (h : Envs K F σ ρ) : ∀ vs : List Nat, Envs K F (L2.wipe σ vs) (wipeD ρ vs)
  | [] => h
  | v :: vs => (h.wipe vs).unset v
theorem wipe_set_none {σ : L2.St} {j : Nat} : ∀ {vs : List Nat}, j ∈ vs → (L2.wipe σ vs).set j none = L2.wipe σ vs
  | v :: vs, h => by
    show ((L2.wipe σ vs).set v none).set j none = (L2.wipe σ vs).set v none
    by_cases e : v = j
    · subst e; rw [List.set_set]
    · rw [List.set_comm _ _ e]
      have : j ∈ vs := by
        rcases List.mem_cons.mp h with z | z
        · exact absurd z.symm e
        · exact z
      rw [wipe_set_none this]
theorem wipe_wipe {σ : L2.St} : ∀ (ws vs : List Nat), (∀ j ∈ ws, j ∈ vs) → L2.wipe (L2.wipe σ vs) ws = L2.wipe σ vs
  | [], _, _ => rfl
  | w :: ws, vs, h => by
    show (L2.wipe (L2.wipe σ vs) ws).set w none = _
    rw [wipe_wipe ws vs fun j hj => h j (List.mem_cons_of_mem _ hj)]
    exact wipe_set_none (h w List.mem_cons_self)
theorem wipe_set {y : Option V} {j : Nat} : ∀ {σ : L2.St} {vs : List Nat}, j ∈ vs → L2.wipe (σ.set j y) vs = L2.wipe σ vs
  | σ, v :: vs, h => by
    show (L2.wipe (σ.set j y) vs).set v none = (L2.wipe σ vs).set v none
    by_cases e : j ∈ vs
    · rw [wipe_set e]
    · have ej : v = j := by
        rcases List.mem_cons.mp h with z | z
        · exact z.symm
        · exact absurd z e
      subst ej
      have key : ∀ (ws : List Nat) (τ : L2.St), v ∉ ws → L2.wipe (τ.set v y) ws = (L2.wipe τ ws).set v y := by
        intro ws
        induction ws with
        | nil => intro τ _; rfl
        | cons w ws ih =>
          intro τ hn
          show (L2.wipe (τ.set v y) ws).set w none = ((L2.wipe τ ws).set w none).set v y
          rw [ih τ fun z => hn (List.mem_cons_of_mem _ z), List.set_comm]
          exact fun z => hn (z ▸ List.mem_cons_self)
      rw [key vs σ e, List.set_set]
theorem wipe_back {y : Option V} {j : Nat} {σ : L2.St} {vs : List Nat} (h : j ∈ vs) : L2.wipe ((L2.wipe σ vs).set j y) vs = L2.wipe σ vs := by
  rw [wipe_set h, wipe_wipe vs vs fun _ q => q]
end DL


namespace DL
open PySem PySem.Spec PyProof.Rows L2

/-! ### slots by name -/
abbrev Rn := List (Str × Option D)
/-- the slots: names and what they hold -/
structure Env (X : Cx) (F : Hp) (σ : L2.St) (ρ : Rn) : Prop where
  nd : X.N.Nodup
  nm : ρ.map (·.1) = X.N
  ev : Envs X.K F σ (ρ.map (·.2))
inductive LookAt : Rn → Nat → Str → D → Prop
  | here {x : Str} {d : D} {r : Rn} : LookAt ((x, some d) :: r) 0 x d
  | there {x : Str} {d : D} {r : Rn} {q : Str × Option D} {i : Nat} : LookAt r i x d → LookAt (q :: r) (i + 1) x d
inductive SetAt : Rn → Nat → Str → D → Rn → Prop
  | here {x : Str} {d : D} {o : Option D} {r : Rn} : SetAt ((x, o) :: r) 0 x d ((x, some d) :: r)
  | there {x : Str} {d : D} {r r' : Rn} {q : Str × Option D} {i : Nat} : SetAt r i x d r' → SetAt (q :: r) (i + 1) x d (q :: r')
theorem LookAt.get : ∀ {ρ : Rn} {i : Nat} {x : Str} {d : D}, LookAt ρ i x d → ρ[i]? = some (x, some d)
  | _, _, _, _, .here => rfl
  | _, _, _, _, .there h => by rw [List.getElem?_cons_succ]; exact h.get
theorem SetAt.eq : ∀ {ρ ρ' : Rn} {i : Nat} {x : Str} {d : D}, SetAt ρ i x d ρ' → ρ' = ρ.set i (x, some d) ∧ (ρ.map (·.1))[i]? = some x
  | _, _, _, _, _, .here => ⟨rfl, rfl⟩
  | _, _, _, _, _, .there h => by
    obtain ⟨h1, h2⟩ := h.eq
    exact ⟨by rw [List.set_cons_succ, h1], by rw [List.map_cons, List.getElem?_cons_succ]; exact h2⟩
section
variable {X : Cx} {F F' : Hp} {σ : L2.St} {ρ ρ' : Rn} {i : Nat} {x : Str} {d : D}
theorem Env.look (e : Env X F σ ρ) (h : LookAt ρ i x d) : X.N[i]? = some x ∧ ∃ v, σ[i]? = some (some v) ∧ Den X.K F v d := by
  have g := h.get
  refine ⟨by rw [← e.nm, List.getElem?_map, g]; rfl, e.ev.get i d (by rw [List.getElem?_map, g]; rfl)⟩
theorem Env.mono (e : Env X F σ ρ) (h : Ex F F') : Env X F' σ ρ := ⟨e.nd, e.nm, e.ev.mono h⟩
theorem Env.set {v : V} (e : Env X F σ ρ) (h : SetAt ρ i x d ρ') (q : Den X.K F v d) : Env X F (σ.set i (some v)) ρ' := by
  obtain ⟨rfl, hx⟩ := h.eq
  refine ⟨e.nd, ?_, by rw [List.map_set]; exact e.ev.set q i⟩
  rw [List.map_set, ← e.nm]
  apply List.ext_getElem?
  intro j
  by_cases hj : i = j
  · subst hj
    rw [hx, List.getElem?_set_self (List.getElem?_eq_some_iff.mp hx).1]
  · rw [List.getElem?_set_ne hj]
theorem Env.ix (e : Env X F σ ρ) (h : SetAt ρ i x d ρ') : X.N[i]? = some x := by rw [← e.nm]; exact h.eq.2
end

/-! ### what is wanted of code, in the model's own terms -/
def SE (X : Cx) (e : Expr) (σ : L2.St) (H : Hp) (Q : VK) : Prop := ∀ pins s, Inv X pins σ H s → wpAny (model X.prog X.w) X.A (eval e X.env) (EP X pins σ Q) X.xe s
def ST (X : Cx) (e : Expr) (σ : L2.St) (H : Hp) (Q : Bool → Hp → Prop) : Prop := ∀ pins s, Inv X pins σ H s → wpAny (model X.prog X.w) X.A (isTrue e X.env (eval e X.env)) (TP X pins σ Q) X.xe s
def SW (X : Cx) (e : Expr) (σ : L2.St) (H : Hp) (Q : Bool → Hp → Prop) : Prop := ∀ whole pins s, Inv X pins σ H s → wpAny (model X.prog X.w) X.A (isTrue e X.env whole) (TP X pins σ Q) X.xe s
def SA (X : Cx) (es : List Expr) (σ : L2.St) (H : Hp) (Q : List V → Hp → Prop) : Prop := ∀ pos pins s, Inv X pins σ H s → wpAny (model X.prog X.w) X.A (spliced (backTo pos (starEach es X.env))) (AP X pins σ Q) X.xe s
def SS (X : Cx) (st : Stmt) (D : Ends) (σ : L2.St) (H : Hp) : Prop := ∀ pins s, Inv X pins σ H s → wpAny (model X.prog X.w) X.A (exec st X.env) (SP X pins D) X.xe s
def SSs (X : Cx) (st : List Stmt) (D : Ends) (σ : L2.St) (H : Hp) : Prop := ∀ pins s, Inv X pins σ H s → wpAny (model X.prog X.w) X.A (execs st X.env) (SP X pins D) X.xe s
def SI (X : Cx) (tg it : Expr) (σ : L2.St) (H : Hp) (R : It → Hp → Prop) : Prop := ∀ pins s, Inv X pins σ H s →
  wpAny (model X.prog X.w) X.A (eval it X.env) (fun v s1 => wpAny (model X.prog X.w) X.A (pyIter v) (PIE X pins σ tg R) X.xe s1) X.xe s
def SG (X : Cx) (tg : Expr) (v : V) (σ : L2.St) (H : Hp) (Q : L2.St → Hp → Prop) : Prop := ∀ pins s u, Inv X pins σ H s → RelV v u →
  wpAny (model X.prog X.w) X.A (assign tg X.env u) (fun _ s' => ∃ σ' H', Inv X pins σ' H' s' ∧ Q σ' H') X.xe s
section
variable {X : Cx} {e : Expr} {es : List Expr} {st : Stmt} {sts : List Stmt} {σ : L2.St} {H : Hp}
theorem pe_SE : PE X e (SE X e) := ⟨fun pins s σ H Q I h => h pins s I⟩
theorem pt_ST : PT X e (ST X e) := ⟨fun pins s σ H Q I h => h pins s I⟩
theorem pw_SW : PW X e (SW X e) := ⟨fun wh pins s σ H Q I h => h wh pins s I⟩
theorem pa_SA : PA X es (SA X es) := ⟨fun pos pins s σ H Q I h => h pos pins s I⟩
theorem ps_SS : PS X st (SS X st) := ⟨fun pins s σ H D I h => h pins s I⟩
theorem pss_SS : PSs X sts (SSs X sts) := ⟨fun pins s σ H D I h => h pins s I⟩
theorem pi_SI {tg it : Expr} : PI X tg it (SI X tg it) := ⟨fun pins s σ H R I h => h pins s I⟩
theorem pg_SG {tg : Expr} : PG X tg (SG X tg) := ⟨fun pins s σ H v u Q I r h => h pins s u I r⟩
theorem SE.of {t : TE} {Q : VK} (h : PE X e t) (q : t σ H Q) : SE X e σ H Q := fun pins s I => h.run pins s σ H Q I q
theorem ST.of {t : TT} {Q : Bool → Hp → Prop} (h : PT X e t) (q : t σ H Q) : ST X e σ H Q := fun pins s I => h.run pins s σ H Q I q
theorem SW.of {t : TT} {Q : Bool → Hp → Prop} (h : PW X e t) (q : t σ H Q) : SW X e σ H Q := fun wh pins s I => h.run wh pins s σ H Q I q
theorem SA.of {t : TA} {Q : List V → Hp → Prop} (h : PA X es t) (q : t σ H Q) : SA X es σ H Q := fun pos pins s I => h.run pos pins s σ H Q I q
theorem SS.of {t : TS} {D : Ends} (h : PS X st t) (q : t D σ H) : SS X st D σ H := fun pins s I => h.run pins s σ H D I q
theorem SSs.of {t : TS} {D : Ends} (h : PSs X sts t) (q : t D σ H) : SSs X sts D σ H := fun pins s I => h.run pins s σ H D I q
theorem SI.of {tg it : Expr} {t : TI} {R : It → Hp → Prop} (h : PI X tg it t) (q : t σ H R) : SI X tg it σ H R := fun pins s I => h.run pins s σ H R I q
theorem SG.of {tg : Expr} {t : TG} {v : V} {Q : L2.St → Hp → Prop} (h : PG X tg t) (q : t v σ H Q) : SG X tg v σ H Q := fun pins s u I r => h.run pins s σ H v u Q I r q
theorem SE.mono {Q Q' : VK} (h : SE X e σ H Q) (q : ∀ v H', Q v H' → Q' v H') : SE X e σ H Q' := fun pins s I => thn (h pins s I) fun u s' ⟨v, H', I', r, k⟩ => ⟨v, H', I', r, q v H' k⟩
theorem ST.mono {Q Q' : Bool → Hp → Prop} (h : ST X e σ H Q) (q : ∀ v H', Q v H' → Q' v H') : ST X e σ H Q' := fun pins s I => thn (h pins s I) fun u s' ⟨H', I', k⟩ => ⟨H', I', q _ H' k⟩
theorem SW.mono {Q Q' : Bool → Hp → Prop} (h : SW X e σ H Q) (q : ∀ v H', Q v H' → Q' v H') : SW X e σ H Q' := fun wh pins s I => thn (h wh pins s I) fun u s' ⟨H', I', k⟩ => ⟨H', I', q _ H' k⟩
theorem SA.mono {Q Q' : List V → Hp → Prop} (h : SA X es σ H Q) (q : ∀ v H', Q v H' → Q' v H') : SA X es σ H Q' := fun pos pins s I => thn (h pos pins s I) fun u s' ⟨v, H', I', r, k⟩ => ⟨v, H', I', r, q v H' k⟩
theorem SI.mono {tg it : Expr} {Q Q' : It → Hp → Prop} (h : SI X tg it σ H Q) (q : ∀ v H', Q v H' → Q' v H') : SI X tg it σ H Q' := fun pins s I => thn (h pins s I) fun u s' k => thn k fun w s2 ⟨a, fp, tn, J, H', e1, I', T, t0, f, r⟩ => ⟨a, fp, tn, J, H', e1, I', T, t0, f, q J H' r⟩
theorem SG.mono {tg : Expr} {v : V} {Q Q' : L2.St → Hp → Prop} (h : SG X tg v σ H Q) (q : ∀ v H', Q v H' → Q' v H') : SG X tg v σ H Q' := fun pins s u I r => thn (h pins s u I r) fun _ s' ⟨σ', H', I', k⟩ => ⟨σ', H', I', q σ' H' k⟩
theorem SP.imp {pins : List (Addr × Obj)} {E E' : Ends} {f : Flow} {s : Shared} (h : SP X pins E f s) (h1 : ∀ σ H, E.nx σ H → E'.nx σ H) (h2 : ∀ v H, E.rt v H → E'.rt v H) (h3 : ∀ σ H, E.bk σ H → E'.bk σ H) (h4 : ∀ σ H, E.ct σ H → E'.ct σ H) : SP X pins E' f s := by
  cases f with
  | next => obtain ⟨σ, H, I, q⟩ := h; exact ⟨σ, H, I, h1 _ _ q⟩
  | brk => obtain ⟨σ, H, I, q⟩ := h; exact ⟨σ, H, I, h3 _ _ q⟩
  | cont => obtain ⟨σ, H, I, q⟩ := h; exact ⟨σ, H, I, h4 _ _ q⟩
  | ret u => obtain ⟨v, σ, H, I, r, q⟩ := h; exact ⟨v, σ, H, I, r, h2 _ _ q⟩
theorem SS.mono {E E' : Ends} (h : SS X st E σ H) (h1 : ∀ σ H, E.nx σ H → E'.nx σ H) (h2 : ∀ v H, E.rt v H → E'.rt v H) (h3 : ∀ σ H, E.bk σ H → E'.bk σ H) (h4 : ∀ σ H, E.ct σ H → E'.ct σ H) : SS X st E' σ H := fun pins s I => thn (h pins s I) fun f s' q => SP.imp q h1 h2 h3 h4
theorem SSs.mono {E E' : Ends} (h : SSs X sts E σ H) (h1 : ∀ σ H, E.nx σ H → E'.nx σ H) (h2 : ∀ v H, E.rt v H → E'.rt v H) (h3 : ∀ σ H, E.bk σ H → E'.bk σ H) (h4 : ∀ σ H, E.ct σ H → E'.ct σ H) : SSs X sts E' σ H := fun pins s I => thn (h pins s I) fun f s' q => SP.imp q h1 h2 h3 h4
end


/-! ### the context over data: what is wished of an exception -/
abbrev XQ := Str → Option (Str × D) → Rn → Led → Prop
structure CD extends Cx where
  xq : XQ
instance : CoeOut CD Cx := ⟨CD.toCx⟩
/-- the field of an exception -/
def FdD (K : Frag) (F : Hp) (d : Option Addr) : Option (Str × D) → Prop
  | none => d = none
  | some (f, x) => ∃ (dd : Addr) (v : V), d = some dd ∧ F dd = some (.xd [(f, v)]) ∧ Den K F v x
/-- an exception of a class of the program, told over data -/
def WD (X : Cx) (F : Hp) (m : Led) (H : Hp) (q : XQ) : L2.WX := fun cls d σ H2 => ∃ (nm : Str) (C : Addr) (fd : Option (Str × D)) (ρ2 : Rn) (F2 : Hp) (m2 : Led),
  X.mg nm = some (.ref C) ∧ cls = .ref C ∧ Step X.K F m H F2 m2 H2 ∧ Env X F2 σ ρ2 ∧ FdD X.K F2 d fd ∧ q nm fd ρ2 m2
theorem WD.step {X : Cx} {F F1 H H1 : Hp} {m m1 : Led} {q : XQ} {cls : Value} {d : Option Addr} {σ : L2.St} {H2 : Hp} (s : Step X.K F m H F1 m1 H1) (h : WD X F1 m1 H1 q cls d σ H2) : WD X F m H q cls d σ H2 := by
  obtain ⟨nm, C, fd, ρ2, F2, m2, h1, h2, h3, h4⟩ := h
  exact ⟨nm, C, fd, ρ2, F2, m2, h1, h2, s.trans h3, h4⟩
structure AtX (X : CD) (F : Hp) (m : Led) (H : Hp) : Prop extends At X.K F m H where
  tk : L2.Takes X.toCx (WD X.toCx F m H X.xq)
  po : PassesOwn (model X.prog X.w) X.A X.env X.xe
structure StepX (X : CD) (F : Hp) (m : Led) (H : Hp) (F2 : Hp) (m2 : Led) (H2 : Hp) : Prop where
  st : Step X.K F m H F2 m2 H2
  tk2 : L2.Takes X.toCx (WD X.toCx F2 m2 H2 X.xq)
  po : PassesOwn (model X.prog X.w) X.A X.env X.xe
section
variable {X : CD} {F F1 F2 H H1 H2 : Hp} {m m1 m2 : Led}
instance : CoeOut (AtX X F m H) (At X.K F m H) := ⟨AtX.toAt⟩
instance : CoeOut (StepX X F m H F1 m1 H1) (Step X.K F m H F1 m1 H1) := ⟨StepX.st⟩
theorem StepX.at2 (s : StepX X F m H F1 m1 H1) : AtX X F1 m1 H1 := ⟨s.st.at2, s.tk2, s.po⟩
theorem StepX.ex (s : StepX X F m H F1 m1 H1) : Ex F F1 := s.st.ex
theorem AtX.step (a : AtX X F m H) (s : Step X.K F m H F1 m1 H1) : StepX X F m H F1 m1 H1 := ⟨s, a.tk.imp fun _ _ _ _ h => WD.step s h, a.po⟩
theorem AtX.to (a : AtX X F m H) (s : Step X.K F m H F1 m1 H1) : AtX X F1 m1 H1 := (a.step s).at2
theorem StepX.trans (a : StepX X F m H F1 m1 H1) (b : Step X.K F1 m1 H1 F2 m2 H2) : Step X.K F m H F2 m2 H2 := a.st.trans b
theorem StepX.refl (a : AtX X F m H) : StepX X F m H F m H := ⟨Step.refl a.toAt, a.tk, a.po⟩
/-- where nothing may be raised -/
theorem AtX.quiet {K0 : Cx} (a : At K0.K F m H) (hx : K0.xe = fun _ _ => False := by rfl) : AtX ⟨K0, fun _ _ _ _ => False⟩ F m H := ⟨a, fun u s' x => by
  obtain ⟨_, _, _, _, _, _, _, _, _, _, _, _, _, _, _, _, _, _, _, _, _, _, _, _, _, _, _, z⟩ := x
  exact z.elim, by
  show PassesOwn (model K0.prog K0.w) K0.A K0.env K0.xe
  rw [hx]
  exact PassesOwn.never⟩
end

/-! ### the judgements over data -/
section
variable (K : Frag) (F : Hp) (m : Led) (H : Hp)
def PQ (R : D → Led → Prop) : VK := fun v H2 => ∃ d F2 m2, Step K F m H F2 m2 H2 ∧ Den K F2 v d ∧ R d m2
def PB (R : Bool → Led → Prop) : Bool → Hp → Prop := fun b H2 => ∃ F2 m2, Step K F m H F2 m2 H2 ∧ R b m2
def PL (R : List D → Led → Prop) : List V → Hp → Prop := fun vs H2 => ∃ ds F2 m2, Step K F m H F2 m2 H2 ∧ Dens K F2 vs ds ∧ R ds m2
end
structure EndsD where
  nx : Rn → Led → Prop
  rt : D → Led → Prop
  bk : Rn → Led → Prop := fun _ _ => False
  ct : Rn → Led → Prop := fun _ _ => False
def PN (X : CD) (F : Hp) (m : Led) (H : Hp) (R : Rn → Led → Prop) : L2.St → Hp → Prop := fun σ2 H2 => ∃ ρ2 F2 m2, Step X.K F m H F2 m2 H2 ∧ Env X F2 σ2 ρ2 ∧ R ρ2 m2
def ED (X : CD) (F : Hp) (m : Led) (H : Hp) (E : EndsD) : Ends := { nx := PN X F m H E.nx, rt := PQ X.K F m H E.rt, bk := PN X F m H E.bk, ct := PN X F m H E.ct }
structure EX (X : CD) (e : Expr) (ρ : Rn) (m : Led) (R : D → Led → Prop) : Prop where
  run : ∀ F σ H, Env X F σ ρ → AtX X F m H → SE X e σ H (PQ X.K F m H R)
structure TX (X : CD) (e : Expr) (ρ : Rn) (m : Led) (R : Bool → Led → Prop) : Prop where
  run : ∀ F σ H, Env X F σ ρ → AtX X F m H → ST X e σ H (PB X.K F m H R)
structure WX (X : CD) (e : Expr) (ρ : Rn) (m : Led) (R : Bool → Led → Prop) : Prop where
  run : ∀ F σ H, Env X F σ ρ → AtX X F m H → SW X e σ H (PB X.K F m H R)
structure AX (X : CD) (es : List Expr) (ρ : Rn) (m : Led) (R : List D → Led → Prop) : Prop where
  run : ∀ F σ H, Env X F σ ρ → AtX X F m H → SA X es σ H (PL X.K F m H R)
structure S1 (X : CD) (st : Stmt) (ρ : Rn) (m : Led) (E : EndsD) : Prop where
  run : ∀ F σ H, Env X F σ ρ → AtX X F m H → SS X st (ED X F m H E) σ H
structure SX (X : CD) (st : List Stmt) (ρ : Rn) (m : Led) (E : EndsD) : Prop where
  run : ∀ F σ H, Env X F σ ρ → AtX X F m H → SSs X st (ED X F m H E) σ H
structure GX (X : CD) (tg : Expr) (d : D) (ρ : Rn) (m : Led) (R : Rn → Led → Prop) : Prop where
  run : ∀ F σ H v, Env X F σ ρ → AtX X F m H → Den X.K F v d → SG X tg v σ H (PN X F m H R)
/-- what an iterator gives: the items ds, one by one -/
def YD (K : Frag) (F1 : Hp) (ds : List D) (i : Nat) (H2 : Hp) (x : V) (H3 : Hp) : Prop := ∀ F2 m2, Ex F1 F2 → At K F2 m2 H2 → ∃ F3 d, ds[i]? = some d ∧ Step K F2 m2 H2 F3 m2 H3 ∧ Den K F3 x d
structure IX (X : CD) (tg it : Expr) (ρ : Rn) (m : Led) (R : List D → Led → Prop) : Prop where
  run : ∀ F σ H, Env X F σ ρ → AtX X F m H →
  SI X tg it σ H fun J H1 => ∃ ds F1 m1, Step X.K F m H F1 m1 H1 ∧ R ds m1 ∧ Walk J ds.length (fun H2 => Ex F1 H2) (YD X.K F1 ds)
/-- an operation on data -/
structure OX (X : CD) (f : Value → Value → Sem Value) (d1 d2 : D) (m : Led) (R : D → Led → Prop) : Prop where
  run : ∀ F σ H x y pins s v u, Den X.K F x d1 → Den X.K F y d2 → AtX X F m H → Inv X pins σ H s → RelV x v → RelV y u →
  wpAny (model X.prog X.w) X.A (f v u) (EP X pins σ (PQ X.K F m H R)) X.xe s
structure UX (X : CD) (f : Value → Sem Value) (d1 : D) (m : Led) (R : D → Led → Prop) : Prop where
  run : ∀ F σ H x pins s v, Den X.K F x d1 → AtX X F m H → Inv X pins σ H s → RelV x v →
  wpAny (model X.prog X.w) X.A (f v) (EP X pins σ (PQ X.K F m H R)) X.xe s
structure BX (X : CD) (f : Value) (ds : List D) (m : Led) (R : D → Led → Prop) : Prop where
  run : ∀ F σ H xs pins s us, Dens X.K F xs ds → AtX X F m H → Inv X pins σ H s → Vals xs us →
  wpAny (model X.prog X.w) X.A (call f us) (EP X pins σ (PQ X.K F m H R)) X.xe s
section
variable {X : CD} {K : Frag} {F F1 F2 H H1 H2 : Hp} {m m1 m2 : Led} {σ : L2.St} {ρ : Rn}
theorem PQ.step {R : D → Led → Prop} {v : V} (a : Step K F m H F1 m1 H1) (h : PQ K F1 m1 H1 R v H2) : PQ K F m H R v H2 := let ⟨d, F2, m2, s, q, r⟩ := h; ⟨d, F2, m2, a.trans s, q, r⟩
theorem PB.step {R : Bool → Led → Prop} {v : Bool} (a : Step K F m H F1 m1 H1) (h : PB K F1 m1 H1 R v H2) : PB K F m H R v H2 := let ⟨F2, m2, s, r⟩ := h; ⟨F2, m2, a.trans s, r⟩
theorem PL.step {R : List D → Led → Prop} {v : List V} (a : Step K F m H F1 m1 H1) (h : PL K F1 m1 H1 R v H2) : PL K F m H R v H2 := let ⟨d, F2, m2, s, q, r⟩ := h; ⟨d, F2, m2, a.trans s, q, r⟩
theorem PN.step {R : Rn → Led → Prop} (a : Step X.K F m H F1 m1 H1) (h : PN X F1 m1 H1 R σ H2) : PN X F m H R σ H2 := let ⟨d, F2, m2, s, q, r⟩ := h; ⟨d, F2, m2, a.trans s, q, r⟩
theorem PQ.now {R : D → Led → Prop} {v : V} {d : D} (a : At K F m H) (q : Den K F v d) (r : R d m) : PQ K F m H R v H := ⟨d, F, m, Step.refl a, q, r⟩
theorem SS.step {st : Stmt} {E : EndsD} (a : Step X.K F m H F1 m1 H1) (h : SS X st (ED X F1 m1 H1 E) σ H2) : SS X st (ED X F m H E) σ H2 := h.mono (fun _ _ q => PN.step a q) (fun _ _ q => PQ.step a q) (fun _ _ q => PN.step a q) fun _ _ q => PN.step a q
theorem SSs.step {st : List Stmt} {E : EndsD} (a : Step X.K F m H F1 m1 H1) (h : SSs X st (ED X F1 m1 H1 E) σ H2) : SSs X st (ED X F m H E) σ H2 := h.mono (fun _ _ q => PN.step a q) (fun _ _ q => PQ.step a q) (fun _ _ q => PN.step a q) fun _ _ q => PN.step a q
/-- going on from a judgement -/
theorem EX.go {e : Expr} {R : D → Led → Prop} {Q : VK} (h : EX X e ρ m R) (en : Env X F σ ρ) (a : AtX X F m H) (k : ∀ v d F1 m1 H1, StepX X F m H F1 m1 H1 → Env X F1 σ ρ → Den X.K F1 v d → R d m1 → Q v H1) : SE X e σ H Q :=
  (h.run F σ H en a).mono fun v H1 ⟨d, F1, m1, s, q, r⟩ => k v d F1 m1 H1 (a.step s) (en.mono s.ex) q r
theorem AX.go {es : List Expr} {R : List D → Led → Prop} {Q : List V → Hp → Prop} (h : AX X es ρ m R) (en : Env X F σ ρ) (a : AtX X F m H) (k : ∀ v d F1 m1 H1, StepX X F m H F1 m1 H1 → Env X F1 σ ρ → Dens X.K F1 v d → R d m1 → Q v H1) : SA X es σ H Q :=
  (h.run F σ H en a).mono fun v H1 ⟨d, F1, m1, s, q, r⟩ => k v d F1 m1 H1 (a.step s) (en.mono s.ex) q r
theorem TX.go {e : Expr} {R : Bool → Led → Prop} {Q : Bool → Hp → Prop} (h : TX X e ρ m R) (en : Env X F σ ρ) (a : AtX X F m H) (k : ∀ b F1 m1 H1, StepX X F m H F1 m1 H1 → Env X F1 σ ρ → R b m1 → Q b H1) : ST X e σ H Q :=
  (h.run F σ H en a).mono fun b H1 ⟨F1, m1, s, r⟩ => k b F1 m1 H1 (a.step s) (en.mono s.ex) r
theorem EX.mono {e : Expr} {R R' : D → Led → Prop} (h : EX X e ρ m R) (q : ∀ d m', R d m' → R' d m') : EX X e ρ m R' := .mk fun F σ H en a => (h.run F σ H en a).mono fun v H1 ⟨d, F1, m1, s, k, r⟩ => ⟨d, F1, m1, s, k, q d m1 r⟩
theorem TX.mono {e : Expr} {R R' : Bool → Led → Prop} (h : TX X e ρ m R) (q : ∀ d m', R d m' → R' d m') : TX X e ρ m R' := .mk fun F σ H en a => (h.run F σ H en a).mono fun v H1 ⟨F1, m1, s, r⟩ => ⟨F1, m1, s, q v m1 r⟩
theorem SX.mono {sts : List Stmt} {E E' : EndsD} (h : SX X sts ρ m E) (h1 : ∀ ρ m, E.nx ρ m → E'.nx ρ m) (h2 : ∀ d m, E.rt d m → E'.rt d m) (h3 : ∀ ρ m, E.bk ρ m → E'.bk ρ m) (h4 : ∀ ρ m, E.ct ρ m → E'.ct ρ m) : SX X sts ρ m E' := .mk fun F σ H en a =>
  (h.run F σ H en a).mono (fun σ H ⟨ρ, F2, m2, s, e, r⟩ => ⟨ρ, F2, m2, s, e, h1 _ _ r⟩) (fun v H ⟨d, F2, m2, s, e, r⟩ => ⟨d, F2, m2, s, e, h2 _ _ r⟩) (fun σ H ⟨ρ, F2, m2, s, e, r⟩ => ⟨ρ, F2, m2, s, e, h3 _ _ r⟩) (fun σ H ⟨ρ, F2, m2, s, e, r⟩ => ⟨ρ, F2, m2, s, e, h4 _ _ r⟩)
end

/-! ### rules for expressions -/
section
variable {X : CD} {e a b c : Expr} {es : List Expr} {ρ : Rn} {m : Led} {R : D → Led → Prop} {pos : Pos}
theorem x_var {i : Nat} {x : Str} {d : D} (h : LookAt ρ i x d) (k : R d m) (hv : Vis X.env.scope x := by first | exact Or.inl rfl | exact Or.inr (Or.inl rfl) | exact Or.inr (Or.inr rfl)) (hd : (x == ("__debug__" : Str)) = false := by decide)
    (hcd : (x == ("__classdict__" : Str)) = false := by decide) : EX X (.Name x pos) ρ m R := .mk fun F σ H en at_ => by
  obtain ⟨hN, v, hs, q⟩ := en.look h
  exact SE.of (pe_var hN hv hd hcd) ⟨v, hs, PQ.now at_ q k⟩
theorem x_int {i : Int} {j : Nat} (k : R (.int i) m) : EX X (.Constant (.int i) j pos) ρ m R := .mk fun F σ H en at_ => SE.of pe_int (PQ.now at_ (.int i) k)
theorem x_bl {i : Bool} {j : Nat} (k : R (.bl i) m) : EX X (.Constant (.bool i) j pos) ρ m R := .mk fun F σ H en at_ => SE.of pe_bl (PQ.now at_ (.bl i) k)
theorem x_non {j : Nat} (k : R .non m) : EX X (.Constant .none j pos) ρ m R := .mk fun F σ H en at_ => SE.of pe_non (PQ.now at_ .non k)
theorem x_str {x : Str} {j : Nat} (k : R (.str x) m) : EX X (.Constant (.str x) j pos) ρ m R := .mk fun F σ H en at_ => SE.of pe_str (PQ.now at_ (.str x) k)
/-- a constant of the module -/
def GC (K : Frag) (mg : Str → Option Value) (x : Str) (d : D) : Prop := ∃ v u, mg x = some u ∧ RelV v u ∧ ∀ F, Den K F v d
theorem x_glob {x : Str} {d : D} (hg : GC X.K X.mg x d) (k : R d m) (h : Gl X x := by rfl) (hd : (x == ("__debug__" : Str)) = false := by decide) : EX X (.Name x pos) ρ m R := .mk fun F σ H en at_ => by
  obtain ⟨v, u, hm, r, q⟩ := hg
  exact SE.of (pe_glob h hm r hd) (PQ.now at_ (q F) k)
theorem x_bin {op : Operator} (h : EX X a ρ m fun d1 m1 => EX X b ρ m1 fun d2 m2 => OX X (binaryOp op) d1 d2 m2 R) : EX X (.BinOp a op b pos) ρ m R := .mk fun F σ H en at_ => by
  intro pins s I
  refine wpAny_BinOp (binT (R := fun x y H2 => ∃ d1 d2 F2 m2, Step X.K F m H F2 m2 H2 ∧ Den X.K F2 x d1 ∧ Den X.K F2 y d2 ∧ OX X (binaryOp op) d1 d2 m2 R) (pe_SE (e := a)) (pe_SE (e := b)) I ?_ ?_)
  · exact h.go en at_ fun v d F1 m1 H1 s1 en1 q1 r1 => r1.go en1 s1.at2 fun v2 d2 F2 m2 H2 s2 en2 q2 r2 => ⟨d, d2, F2, m2, s1.trans s2, q1.mono s2.ex, q2, r2⟩
  · intro v u s2 x y H2 I2 rx ry ⟨d1, d2, F2, m2, st, q1, q2, r⟩
    exact thn (r.run F2 σ H2 x y pins s2 v u q1 q2 (at_.to st) I2 rx ry) fun w s3 ⟨v3, H3, I3, r3, k⟩ => ⟨v3, H3, I3, r3, PQ.step st k⟩
theorem x_un {op : UnaryOp} (h : EX X a ρ m fun d1 m1 => UX X (unaryOp op) d1 m1 R) : EX X (.UnaryOp op a pos) ρ m R := .mk fun F σ H en at_ => by
  intro pins s I
  refine UnaryOp_ (thn (h.run F σ H en at_ pins s I) fun v s1 ⟨x, H1, I1, r1, d, F1, m1, st, q, k⟩ => ?_)
  exact thn (UX.run k F1 σ H1 x pins s1 v q (at_.to st) I1 r1) fun w s3 ⟨v3, H3, I3, r3, k⟩ => ⟨v3, H3, I3, r3, PQ.step st k⟩
theorem x_cmp {op : CmpOp} (h : EX X a ρ m fun d1 m1 => EX X b ρ m1 fun d2 m2 => OX X (compareOp op) d1 d2 m2 R) (hm : behindInMarks op b = false := by first | exact nobehind _ (by decide) (by decide) | rfl | with_unfolding_all rfl) : EX X (.Compare a [op] [b] pos) ρ m R := .mk fun F σ H en at_ => by
  intro pins s I
  refine wpAny_Compare1 (binT (R := fun x y H2 => ∃ d1 d2 F2 m2, Step X.K F m H F2 m2 H2 ∧ Den X.K F2 x d1 ∧ Den X.K F2 y d2 ∧ OX X (compareOp op) d1 d2 m2 R) (pe_SE (e := a)) (pe_SE (e := b)) I ?_ ?_) hm
  · exact h.go en at_ fun v d F1 m1 H1 s1 en1 q1 r1 => r1.go en1 s1.at2 fun v2 d2 F2 m2 H2 s2 en2 q2 r2 => ⟨d, d2, F2, m2, s1.trans s2, q1.mono s2.ex, q2, r2⟩
  · intro v u s2 x y H2 I2 rx ry ⟨d1, d2, F2, m2, st, q1, q2, r⟩
    exact thn (r.run F2 σ H2 x y pins s2 v u q1 q2 (at_.to st) I2 rx ry) fun w s3 ⟨v3, H3, I3, r3, k⟩ => ⟨v3, H3, I3, r3, PQ.step st k⟩
/-- a comparison as a test -/
theorem t_cmp {op : CmpOp} {R : Bool → Led → Prop} (h : EX X a ρ m fun d1 m1 => EX X b ρ m1 fun d2 m2 => OX X (compareOp op) d1 d2 m2 fun d m3 => ∃ k, d = .bl k ∧ R k m3) (hm : behindInMarks op b = false := by first | exact nobehind _ (by decide) (by decide) | rfl | with_unfolding_all rfl) : TX X (.Compare a [op] [b] pos) ρ m R := .mk fun F σ H en at_ => by
  intro pins s I
  refine wpAny_isTrue_Compare1 ?_ hm
  refine binT (R := fun x y H2 => ∃ d1 d2 F2 m2, Step X.K F m H F2 m2 H2 ∧ Den X.K F2 x d1 ∧ Den X.K F2 y d2 ∧ OX X (compareOp op) d1 d2 m2 fun d m3 => ∃ k, d = .bl k ∧ R k m3) (f := fun v u => compareOp op v u) (Q := fun c s3 => wpAny (model X.prog X.w) X.A (truthy c) (TP X pins σ (PB X.K F m H R)) X.xe s3) (pe_SE (e := a)) (pe_SE (e := b)) I ?_ ?_
  · exact h.go en at_ fun v d F1 m1 H1 s1 en1 q1 r1 => r1.go en1 s1.at2 fun v2 d2 F2 m2 H2 s2 en2 q2 r2 => ⟨d, d2, F2, m2, s1.trans s2, q1.mono s2.ex, q2, r2⟩
  · intro v u s2 x y H2 I2 rx ry ⟨d1, d2, F2, m2, st, q1, q2, r⟩
    refine thn (r.run F2 σ H2 x y pins s2 v u q1 q2 (at_.to st) I2 rx ry) fun w s3 ⟨v3, H3, I3, r3, d, F3, m3, st3, q3, kk, ek, k⟩ => ?_
    subst ek
    cases q3
    cases r3
    exact wpAny_truthy_bool ⟨H3, I3, F3, m3, st.trans st3, k⟩
/-- truth of data -/
def TruD (m : Led) (d : D) (k : Bool) : Prop := match d with
  | .non => k = false
  | .bl b => k = b
  | .int i => k = (i != 0)
  | .str y => y.length ≤ sizeLine ∧ k = ((y.length : Int) != 0)
  | .lst xs => k = !xs.isEmpty
  | .tup xs => k = !xs.isEmpty
  | .ref a => ∃ (i : Nat) (ds : List D), m[i]? = some (a, .lst ds) ∧ k = !ds.isEmpty
  | _ => False
theorem Dens.empty {K : Frag} {F : Hp} {xs : List V} {ds : List D} (h : Dens K F xs ds) : xs.isEmpty = ds.isEmpty := by cases h <;> rfl
theorem TruD.v {K : Frag} {F H : Hp} {d : D} {k : Bool} {v : V} (h : TruD m d k) (q : Den K F v d) (at_ : At K F m H) : TruV K v H k := by
  cases q with
  | non => exact h
  | bl b => exact h
  | int i => exact h
  | str x => exact h
  | ty n => exact h
  | lst h1 hs => exact .inl ⟨_, .inl (at_.sub.rd h1), by rw [hs.empty]; exact h⟩
  | tup h1 hs => exact .inr (.inl ⟨_, at_.sub.sqT h1, by rw [hs.empty]; exact h⟩)
  | lsk => exact h.elim
  | dI => exact h.elim
  | dK => exact h.elim
  | dO => exact h.elim
  | obj => exact h.elim
  | exc => exact h.elim
  | cls => exact h.elim
  | ref a =>
    obtain ⟨i, ds, hi, e⟩ := h
    obtain ⟨hh, ⟨xs, rfl, hs⟩, e2⟩ := at_.get hi
    exact .inl ⟨xs, .inl (.inl e2), by rw [hs.empty]; exact e⟩
theorem t_tru {R : Bool → Led → Prop} (h : EX X a ρ m fun d m1 => ∃ k, TruD m1 d k ∧ R k m1) (he : ∀ whole, isTrue a X.env whole = (do let v ← whole; standAt a.pos; holding [v] (truthy v)) := by intro _; rfl) : TX X a ρ m R := .mk fun F σ H en at_ =>
  ST.of (pt_truth (pe_SE (e := a)) he) (h.go en at_ fun v d F1 m1 H1 s1 en1 q1 ⟨k, tk, r⟩ => ⟨k, tk.v q1 s1.at2, F1, m1, s1, r⟩)
theorem t_not {R : Bool → Led → Prop} (h : TX X a ρ m fun k m1 => R (!k) m1) : TX X (.UnaryOp .Not a pos) ρ m R := .mk fun F σ H en at_ =>
  ST.of (pt_not (pt_ST (e := a))) (h.run F σ H en at_)
theorem w_and1 {R : Bool → Led → Prop} (h : TX X a ρ m R) : WX X (.BoolOp .And [a] pos) ρ m R := .mk fun F σ H en at_ => SW.of (pw_and1 (pt_ST (e := a))) (h.run F σ H en at_)
theorem w_or1 {R : Bool → Led → Prop} (h : TX X a ρ m R) : WX X (.BoolOp .Or [a] pos) ρ m R := .mk fun F σ H en at_ => SW.of (pw_or1 (pt_ST (e := a))) (h.run F σ H en at_)
theorem w_and {R : Bool → Led → Prop} {rest : List Expr} (h : TX X a ρ m fun k m1 => (k = true → WX X (.BoolOp .And (b :: rest) pos) ρ m1 R) ∧ (k = false → R false m1)) : WX X (.BoolOp .And (a :: b :: rest) pos) ρ m R := .mk fun F σ H en at_ =>
  SW.of (pw_and (pt_ST (e := a)) (pw_SW (e := .BoolOp .And (b :: rest) pos))) (h.go en at_ fun k F1 m1 H1 s1 en1 r => by
    cases k with
    | true => exact ((r.1 rfl).run F1 σ H1 en1 s1.at2).mono fun v H' q => PB.step s1 q
    | false => exact ⟨F1, m1, s1, r.2 rfl⟩)
theorem w_or {R : Bool → Led → Prop} {rest : List Expr} (h : TX X a ρ m fun k m1 => (k = true → R true m1) ∧ (k = false → WX X (.BoolOp .Or (b :: rest) pos) ρ m1 R)) : WX X (.BoolOp .Or (a :: b :: rest) pos) ρ m R := .mk fun F σ H en at_ =>
  SW.of (pw_or (pt_ST (e := a)) (pw_SW (e := .BoolOp .Or (b :: rest) pos))) (h.go en at_ fun k F1 m1 H1 s1 en1 r => by
    cases k with
    | true => exact ⟨F1, m1, s1, r.1 rfl⟩
    | false => exact ((r.2 rfl).run F1 σ H1 en1 s1.at2).mono fun v H' q => PB.step s1 q)
theorem t_w {R : Bool → Led → Prop} (h : WX X a ρ m R) : TX X a ρ m R := .mk fun F σ H en at_ pins s I => h.run F σ H en at_ _ pins s I
/-- and, or as values: bools ahead of the last -/
theorem x_one {op : BoolOp} (h : EX X a ρ m R) : EX X (.BoolOp op [a] pos) ρ m R := .mk fun F σ H en at_ => SE.of (pe_one (pe_SE (e := a))) (h.run F σ H en at_)
theorem x_and {rest : List Expr} (h : EX X a ρ m fun d m1 => ∃ k, d = .bl k ∧ (k = true → EX X (.BoolOp .And (b :: rest) pos) ρ m1 R) ∧ (k = false → R (.bl false) m1)) : EX X (.BoolOp .And (a :: b :: rest) pos) ρ m R := .mk fun F σ H en at_ =>
  SE.of (pe_and (pe_SE (e := a)) (pe_SE (e := .BoolOp .And (b :: rest) pos))) (h.go en at_ fun v d F1 m1 H1 s1 en1 q ⟨k, ek, r⟩ => by
    subst ek
    cases q
    refine ⟨k, rfl, ?_⟩
    cases k with
    | true => exact ((r.1 rfl).run F1 σ H1 en1 s1.at2).mono fun v H' q => PQ.step s1 q
    | false => exact ⟨_, F1, m1, s1, .bl false, r.2 rfl⟩)
theorem x_or {rest : List Expr} (h : EX X a ρ m fun d m1 => ∃ k, d = .bl k ∧ (k = true → R (.bl true) m1) ∧ (k = false → EX X (.BoolOp .Or (b :: rest) pos) ρ m1 R)) : EX X (.BoolOp .Or (a :: b :: rest) pos) ρ m R := .mk fun F σ H en at_ =>
  SE.of (pe_or (pe_SE (e := a)) (pe_SE (e := .BoolOp .Or (b :: rest) pos))) (h.go en at_ fun v d F1 m1 H1 s1 en1 q ⟨k, ek, r⟩ => by
    subst ek
    cases q
    refine ⟨k, rfl, ?_⟩
    cases k with
    | true => exact ⟨_, F1, m1, s1, .bl true, r.1 rfl⟩
    | false => exact ((r.2 rfl).run F1 σ H1 en1 s1.at2).mono fun v H' q => PQ.step s1 q)
theorem x_if (h : TX X c ρ m fun k m1 => (k = true → EX X a ρ m1 R) ∧ (k = false → EX X b ρ m1 R)) : EX X (.IfExp c a b pos) ρ m R := .mk fun F σ H en at_ =>
  SE.of (pe_ifExp (pt_ST (e := c)) (pe_SE (e := a)) (pe_SE (e := b))) (h.go en at_ fun k F1 m1 H1 s1 en1 r => by
    cases k with
    | true => exact ((r.1 rfl).run F1 σ H1 en1 s1.at2).mono fun v H' q => PQ.step s1 q
    | false => exact ((r.2 rfl).run F1 σ H1 en1 s1.at2).mono fun v H' q => PQ.step s1 q)
theorem a_nil {R : List D → Led → Prop} (k : R [] m) : AX X [] ρ m R := .mk fun F σ H en at_ => SA.of pa_nil ⟨[], F, m, Step.refl at_, .nil, k⟩
theorem a_cons {R : List D → Led → Prop} (h : EX X e ρ m fun d m1 => AX X es ρ m1 fun ds m2 => R (d :: ds) m2) (hs : starEach (e :: es) X.env = (false, eval e X.env) :: starEach es X.env := by rfl) : AX X (e :: es) ρ m R := .mk fun F σ H en at_ =>
  SA.of (pa_cons (pe_SE (e := e)) (pa_SA (es := es)) hs) (h.go en at_ fun v d F1 m1 H1 s1 en1 q r => r.go en1 s1.at2 fun vs ds F2 m2 H2 s2 en2 q2 r2 => ⟨d :: ds, F2, m2, s1.trans s2, .cons (q.mono s2.ex) q2, r2⟩)
theorem x_tup {x1 : Nat} (h : AX X es ρ m fun ds m1 => ds.length ≤ 100000 ∧ R (.tup ds) m1) : EX X (.Tuple es x1 pos) ρ m R := .mk fun F σ H en at_ =>
  SE.of (pe_tup (pa_SA (es := es))) (h.go en at_ fun vs ds F1 m1 H1 s1 en1 q r => ⟨by rw [q.length]; exact Nat.le_trans r.1 (by decide), fun p hp =>
    have nw := Step.new (o := .tup vs) s1.at2 hp
    ⟨.tup ds, _, _, s1.trans nw, .tup (.inl (.inl upd_same)) (q.mono nw.ex), r.2⟩⟩)
theorem x_lst (h : AX X es ρ m fun ds m1 => ds.length ≤ 100000 ∧ R (.lst ds) m1) : EX X (.List es pos) ρ m R := .mk fun F σ H en at_ =>
  SE.of (pe_lst (pa_SA (es := es))) (h.go en at_ fun vs ds F1 m1 H1 s1 en1 q r => ⟨by rw [q.length]; exact Nat.le_trans r.1 (by decide), fun p hp =>
    have nw := Step.new (o := .lst vs) s1.at2 hp
    ⟨.lst ds, _, _, s1.trans nw, .lst (.inl upd_same) (q.mono nw.ex), r.2⟩⟩)
/-- a list that is to be changed -/
theorem x_lstM (h : AX X es ρ m fun ds m1 => ds.length ≤ 100000 ∧ ∀ p, R (.ref p) (m1 ++ [(p, .lst ds)])) : EX X (.List es pos) ρ m R := .mk fun F σ H en at_ =>
  SE.of (pe_lst (pa_SA (es := es))) (h.go en at_ fun vs ds F1 m1 H1 s1 en1 q r => ⟨by rw [q.length]; exact Nat.le_trans r.1 (by decide), fun p hp =>
    have nw := Step.newM (o := .lst vs) (mo := .lst ds) s1.at2 hp ⟨vs, rfl, q⟩
    ⟨.ref p, _, _, s1.trans nw, .ref p, r.2 p⟩⟩)
end
end DL


namespace DL
open PySem PySem.Spec PyProof.Rows L2

/-! ### operations on ints -/
section
variable {X : CD} {f : Value → Value → Sem Value} {d1 d2 : D} {m : Led} {R : D → Led → Prop} {i j : Int}
theorem OX.of {r : R2} (ho : OpR X f r) (h : ∀ F H x y, Den X.K F x d1 → Den X.K F y d2 → AtX X F m H → r x y H (PQ X.K F m H R)) : OX X f d1 d2 m R := .mk fun F σ H x y pins s v u q1 q2 at_ I rx ry => ho pins s σ H x y v u _ I rx ry (h F H x y q1 q2 at_)
theorem UX.of {f : Value → Sem Value} {r : V → Hp → VK → Prop} (ho : UnR X f r) (h : ∀ F H x, Den X.K F x d1 → AtX X F m H → r x H (PQ X.K F m H R)) : UX X f d1 m R := .mk fun F σ H x pins s v q1 at_ I rx => ho pins s σ H x v _ I rx (h F H x q1 at_)
theorem BX.of {f : Value} {ds : List D} {r : List V → Hp → VK → Prop} (ho : CallR X f r) (h : ∀ F H xs, Dens X.K F xs ds → AtX X F m H → r xs H (PQ X.K F m H R)) : BX X f ds m R := .mk fun F σ H xs pins s us q at_ I rs => ho pins s σ H xs us _ I rs (h F H xs q at_)
theorem Den.int_inv {K : Frag} {F : Hp} {v : V} (h : Den K F v (.int i)) : v = .int i := by cases h; rfl
theorem Den.str_inv {K : Frag} {F : Hp} {v : V} {x : Str} (h : Den K F v (.str x)) : v = .str x := by cases h; rfl
theorem Den.bl_inv {K : Frag} {F : Hp} {v : V} {x : Bool} (h : Den K F v (.bl x)) : v = .bl x := by cases h; rfl
theorem OX.i0 {g : Int → Int → V} {d : D} (ho : OpR X f (rI0 g)) (hd : ∀ F, Den X.K F (g i j) d) (k : R d m) : OX X f (.int i) (.int j) m R := OX.of ho fun F H x y q1 q2 at_ => ⟨i, j, q1.int_inv, q2.int_inv, PQ.now at_ (hd F) k⟩
theorem OX.ic {C : Int → Int → Prop} {g : Int → Int → V} {d : D} (ho : OpR X f (rI C g)) (hc : C i j) (hd : ∀ F, Den X.K F (g i j) d) (k : R d m) : OX X f (.int i) (.int j) m R := OX.of ho fun F H x y q1 q2 at_ => ⟨i, j, q1.int_inv, q2.int_inv, hc, PQ.now at_ (hd F) k⟩
theorem o_add (k : R (.int (i + j)) m) : OX X (binaryOp .Add) (.int i) (.int j) m R := OX.i0 op_add (fun _ => .int _) k
theorem o_sub (k : R (.int (i - j)) m) : OX X (binaryOp .Sub) (.int i) (.int j) m R := OX.i0 op_sub (fun _ => .int _) k
theorem op_mulG : OpR X (binaryOp .Mult) (rI IntMulOk fun i j => .int (i * j)) := opI fun _ _ _ _ _ _ _ hc q => mul_int q hc
theorem o_mul (h : IntMulOk i j) (k : R (.int (i * j)) m) : OX X (binaryOp .Mult) (.int i) (.int j) m R := OX.ic op_mulG h (fun _ => .int _) k
def CDivG (_ j : Int) : Prop := j ≠ 0 ∧ j.natAbs.log2 < 9000
theorem op_fdivG : OpR X (binaryOp .FloorDiv) (rI CDivG fun i j => .int (i.fdiv j)) := opI fun _ _ _ _ _ _ _ hc q => floordiv_int hc.1 q (.inl (PyProof.noPylong_of_log2 hc.2))
theorem o_fdivN (h : CDivG i j) (k : R (.int (i.fdiv j)) m) : OX X (binaryOp .FloorDiv) (.int i) (.int j) m R := OX.ic op_fdivG h (fun _ => .int _) k
theorem o_modN (h : j ≠ 0) (k : R (.int (i.fmod j)) m) : OX X (binaryOp .Mod) (.int i) (.int j) m R := OX.ic op_modN h (fun _ => .int _) k
theorem o_pow (h : CPow i j) (k : R (.int (i ^ j.toNat)) m) : OX X (binaryOp .Pow) (.int i) (.int j) m R := OX.ic op_pow h (fun _ => .int _) k
theorem o_lt (k : R (.bl (decide (i < j))) m) : OX X (compareOp .Lt) (.int i) (.int j) m R := OX.i0 op_lt (fun _ => .bl _) k
theorem o_le (k : R (.bl (decide (i ≤ j))) m) : OX X (compareOp .LtE) (.int i) (.int j) m R := OX.i0 op_le (fun _ => .bl _) k
theorem o_gt (k : R (.bl (decide (j < i))) m) : OX X (compareOp .Gt) (.int i) (.int j) m R := OX.i0 op_gt (fun _ => .bl _) k
theorem o_ge (k : R (.bl (decide (j ≤ i))) m) : OX X (compareOp .GtE) (.int i) (.int j) m R := OX.i0 op_ge (fun _ => .bl _) k
theorem u_neg (k : R (.int (-i)) m) : UX X (unaryOp .USub) (.int i) m R := UX.of un_neg fun F H x q at_ => ⟨i, q.int_inv, PQ.now at_ (.int _) k⟩
/-- is None -/
def isN : D → Bool
  | .non => true
  | _ => false
theorem Den.isN {K : Frag} {F : Hp} {v : V} {d : D} (h : Den K F v d) : decide (v = .non) = isN d := by cases h <;> rfl
theorem Den.non_inv {K : Frag} {F : Hp} {v : V} (h : Den K F v .non) : v = .non := by cases h; rfl
theorem o_isN (k : R (.bl (isN d1)) m) : OX X (compareOp .Is) d1 .non m R := OX.of op_isN fun F H a b q1 q2 at_ => ⟨q2.non_inv, by rw [q1.isN]; exact PQ.now at_ (.bl _) k⟩
theorem o_notN (k : R (.bl (!isN d1)) m) : OX X (compareOp .IsNot) d1 .non m R := OX.of op_notN fun F H a b q1 q2 at_ => ⟨q2.non_inv, by rw [q1.isN]; exact PQ.now at_ (.bl _) k⟩

/-! ### lists -/
theorem op_catG : OpR X (binaryOp .Add) (fun x y H Q => ∃ l b xs zs, x = .ref l ∧ y = .ref b ∧ Rd H l (.lst xs) ∧ Rd H b (.lst zs) ∧ xs.length + zs.length ≤ sizeLine ∧ ∀ p, H p = none → Q (.ref p) (upd H p (.lst (xs ++ zs)))) := by
  intro pins s σ H x y v u Q I rx ry h
  obtain ⟨l, b, xs, zs, rfl, rfl, hH, hB, hz, q⟩ := h
  cases rx
  cases ry
  obtain ⟨z, its, n, r, e⟩ := hH.ok I.hok
  obtain ⟨z2, its2, n2, r2, e2⟩ := hB.ok I.hok
  have hl := r.length
  have hl2 := r2.length
  refine PySem.P.add_list e e2 ?_ (by rw [List.size_toArray, List.size_toArray]; omega)
  have ea : its.toArray ++ its2.toArray = (its ++ its2).toArray := by simp
  rw [ea]
  exact ⟨.ref _, _, I.lnew (t' := s.toks) (r.append r2) (by rw [List.length_append]; omega), rfl, q _ I.fresh⟩
theorem new_lst {K : Frag} {F H : Hp} {m : Led} {p : Addr} {xs : List V} {ds : List D} {R : D → Led → Prop} (at_ : At K F m H) (hp : H p = none) (hs : Dens K F xs ds) (k : R (.lst ds) m) : PQ K F m H R (.ref p) (upd H p (.lst xs)) :=
  have nw := Step.new (o := .lst xs) at_ hp
  ⟨.lst ds, _, _, nw, .lst (.inl upd_same) (hs.mono nw.ex), k⟩
theorem new_tup {K : Frag} {F H : Hp} {m : Led} {p : Addr} {xs : List V} {ds : List D} {R : D → Led → Prop} (at_ : At K F m H) (hp : H p = none) (hs : Dens K F xs ds) (k : R (.tup ds) m) : PQ K F m H R (.ref p) (upd H p (.tup xs)) :=
  have nw := Step.new (o := .tup xs) at_ hp
  ⟨.tup ds, _, _, nw, .tup (.inl (.inl upd_same)) (hs.mono nw.ex), k⟩
theorem new_lstM {K : Frag} {F H : Hp} {m : Led} {p : Addr} {xs : List V} {ds : List D} {R : D → Led → Prop} (at_ : At K F m H) (hp : H p = none) (hs : Dens K F xs ds) (k : ∀ p, R (.ref p) (m ++ [(p, .lst ds)])) : PQ K F m H R (.ref p) (upd H p (.lst xs)) :=
  have nw := Step.newM (o := .lst xs) (mo := .lst ds) at_ hp ⟨xs, rfl, hs⟩
  ⟨.ref p, _, _, nw, .ref p, k p⟩
theorem lenOk {n : Nat} (h : n ≤ 100000) : n ≤ sizeLine := Nat.le_trans h (by decide)
theorem lenLt {n : Nat} (h : n < 100000) : n < sizeLine := Nat.lt_of_lt_of_le h (by decide)
theorem o_cat {as bs : List D} (h1 : LstV m d1 as) (h2 : LstV m d2 bs) (hl : as.length + bs.length ≤ 100000) (k : R (.lst (as ++ bs)) m) : OX X (binaryOp .Add) d1 d2 m R := OX.of op_catG fun F H x y q1 q2 at_ => by
  obtain ⟨p, xs, rfl, e1, s1⟩ := h1.read at_.toAt q1
  obtain ⟨q, ys, rfl, e2, s2⟩ := h2.read at_.toAt q2
  exact ⟨p, q, xs, ys, rfl, rfl, e1, e2, lenOk (by rw [s1.length, s2.length]; exact hl), fun l hl => new_lst at_ hl (s1.append s2) k⟩
theorem Dens.atI {K : Frag} {F : Hp} {xs : List V} {ds : List D} {i : Int} {d : D} (h : Dens K F xs ds) (e : L2.atI ds i = some d) : ∃ v, L2.atI xs i = some v ∧ Den K F v d := by
  unfold L2.atI at e ⊢
  rw [h.length]
  cases q : ixN ds.length i with
  | none => rw [q] at e; cases e
  | some j =>
    rw [q] at e
    exact h.get e

/-! ### subscripts -/
structure IxX (X : CD) (d1 d2 : D) (m : Led) (R : D → Led → Prop) : Prop where
  run : ∀ value slice F σ H x y pins s v u, Den X.K F x d1 → Den X.K F y d2 → AtX X F m H → Inv X pins σ H s → RelV x v → RelV y u →
  subscripted slice false v u = operate [v, u] (getItem v u) → wpAny (model X.prog X.w) X.A (subscriptTail value slice v u) (EP X pins σ (PQ X.K F m H R)) X.xe s
theorem IxX.of {r : R2} (ho : IxR X r) (h : ∀ F H x y, Den X.K F x d1 → Den X.K F y d2 → AtX X F m H → r x y H (PQ X.K F m H R)) : IxX X d1 d2 m R := .mk fun value slice F σ H x y pins s v u q1 q2 at_ I rx ry hs => ho value slice pins s σ H x y v u _ I rx ry (h F H x y q1 q2 at_) hs
theorem x_ix {a b : Expr} {ρ : Rn} {pos : Pos} (h : EX X a ρ m fun d1 m1 => EX X b ρ m1 fun d2 m2 => IxX X d1 d2 m2 R) (hs : PlainIx b := by intro _ _; rfl) : EX X (.Subscript a b pos) ρ m R := .mk fun F σ H en at_ => by
  intro pins s I
  refine Subscript_ (binT (R := fun x y H2 => ∃ d1 d2 F2 m2, Step X.K F m H F2 m2 H2 ∧ Den X.K F2 x d1 ∧ Den X.K F2 y d2 ∧ IxX X d1 d2 m2 R) (pe_SE (e := a)) (pe_SE (e := b)) I ?_ ?_)
  · exact h.go en at_ fun v d F1 m1 H1 s1 en1 q1 r1 => r1.go en1 s1.at2 fun v2 d2 F2 m2 H2 s2 en2 q2 r2 => ⟨d, d2, F2, m2, s1.trans s2, q1.mono s2.ex, q2, r2⟩
  · intro v u s2 x y H2 I2 rx ry ⟨d1, d2, F2, m2, st, q1, q2, r⟩
    exact thn (r.run a b F2 σ H2 x y pins s2 v u q1 q2 (at_.to st) I2 rx ry (hs _ _)) fun w s3 ⟨v3, H3, I3, r3, k⟩ => ⟨v3, H3, I3, r3, PQ.step st k⟩
theorem i_lst {ds : List D} {x : D} (h : LstV m d1 ds) (hx : atI ds i = some x) (k : R x m) : IxX X d1 (.int i) m R := IxX.of ix_list fun F H a b q1 q2 at_ => by
  obtain ⟨p, xs, rfl, e1, s1⟩ := h.read at_.toAt q1
  obtain ⟨v, hv, q⟩ := s1.atI hx
  exact ⟨p, xs, i, v, rfl, q2.int_inv, .inl e1, hv, PQ.now at_ q k⟩
theorem i_tup {ds : List D} {x : D} (hx : atI ds i = some x) (k : R x m) : IxX X (.tup ds) (.int i) m R := IxX.of ix_tup fun F H a b q1 q2 at_ => by
  obtain ⟨p, xs, rfl, e1, s1⟩ := tup_read at_.toAt q1
  obtain ⟨v, hv, q⟩ := s1.atI hx
  exact ⟨p, xs, i, v, rfl, q2.int_inv, e1, hv, PQ.now at_ q k⟩
theorem i_str {z : Str} {c : Nat} (hz : z.length ≤ 100000) (hx : atI z.cps.toList i = some c) (k : R (.str ⟨#[c]⟩) m) : IxX X (.str z) (.int i) m R := IxX.of ix_str fun F H a b q1 q2 at_ =>
  ⟨z, i, c, q1.str_inv, q2.int_inv, lenOk hz, hx, PQ.now at_ (.str _) k⟩
/-! slices -/
def PX (X : CD) (o : Option Expr) (ρ : Rn) (m : Led) (R : Option Int → Led → Prop) : Prop := match o with
  | none => R none m
  | some e => EX X e ρ m fun d m1 => ∃ i, d = .int i ∧ R (some i) m1
structure SlX (X : CD) (d : D) (lo hi : Option Int) (m : Led) (R : D → Led → Prop) : Prop where
  ex : ∃ r, SlR X r ∧ ∀ F H x, Den X.K F x d → AtX X F m H → r x lo hi H (PQ X.K F m H R)
theorem SlR.any {ι : Type} {r : ι → V → Option Int → Option Int → Hp → VK → Prop} {ok : ι → Prop} (h : ∀ i, ok i → SlR X (r i)) : SlR X (fun x lo hi H Q => ∃ i, ok i ∧ r i x lo hi H Q) := by
  intro pins s σ H x v vl vu lo hi sl Q I rx hs pl pu ⟨j, hj, q⟩
  exact h j hj pins s σ H x v vl vu lo hi sl Q I rx hs pl pu q
theorem x_slice {e : Expr} {lo hi : Option Expr} {ρ : Rn} {p2 pos : Pos} (h : EX X e ρ m fun d m1 => PX X lo ρ m1 fun l m2 => PX X hi ρ m2 fun u m3 => SlX X d l u m3 R) : EX X (.Subscript e (.Slice lo hi none p2) pos) ρ m R := .mk fun F σ H en at_ => by
  have po : ∀ o : Option Expr, ∃ t : TO, PO X o t ∧ ∀ {R' : Option Int → Led → Prop} {F σ H m}, PX X o ρ m R' → Env X F σ ρ → AtX X F m H → ∀ Q : Option Int → Hp → Prop, (∀ i F1 m1 H1, StepX X F m H F1 m1 H1 → Env X F1 σ ρ → R' i m1 → Q i H1) → t σ H Q := by
    intro o
    cases o with
    | none => exact ⟨_, po_none, fun h en at_ Q k => k none _ _ _ (StepX.refl at_) en h⟩
    | some e => exact ⟨_, po_some pe_SE, fun {R' F σ H m} h en at_ Q k => EX.go (Q := fun x H1 => ∃ i, x = .int i ∧ Q (some i) H1) h en at_ fun v d F1 m1 H1 s1 en1 q ⟨i, ed, r⟩ => by
        subst ed
        exact ⟨i, q.int_inv, k (some i) F1 m1 H1 s1 en1 r⟩⟩
  obtain ⟨tl, pl, kl⟩ := po lo
  obtain ⟨th, ph, kh⟩ := po hi
  refine SE.of (pe_slice (SlR.any (ι := V → Option Int → Option Int → Hp → VK → Prop) (r := fun r => r) (ok := fun r => SlR X r) fun r hr => hr) (pe_SE (e := e)) pl ph) ?_
  refine h.go en at_ fun v d F1 m1 H1 s1 en1 q r => ?_
  refine kl r en1 s1.at2 _ fun l F2 m2 H2 s2 en2 r2 => ?_
  refine kh r2 en2 s2.at2 _ fun u F3 m3 H3 s3 en3 ⟨⟨rr, hr, r3⟩⟩ => ?_
  refine ⟨fun x lo hi H Q => ∃ Q', rr x lo hi H Q' ∧ ∀ v H', Q' v H' → Q v H', ?_, _, r3 F3 H3 v (q.mono (s2.ex.trans s3.ex)) s3.at2, fun v H' k => PQ.step (s1.trans (s2.trans s3)) k⟩
  intro pins s σ H x v vl vu lo hi sl Q I rx hs pl pu ⟨Q', q1, q2⟩
  obtain ⟨ty, tid, h1, h2, h3⟩ := hr pins s σ H x v vl vu lo hi sl Q' I rx hs pl pu q1
  exact ⟨ty, tid, h1, h2, thn h3 fun w s3 ⟨v3, H3, I3, r3, k⟩ => ⟨v3, H3, I3, r3, q2 v3 H3 k⟩⟩
def cutD (xs : List D) (lo hi : Option Int) : List D := (xs.drop (HT.sIx xs.length 0 lo)).take (HT.sIx xs.length xs.length hi - HT.sIx xs.length 0 lo)
theorem Dens.cut {K : Frag} {F : Hp} {xs : List V} {ds : List D} (h : Dens K F xs ds) (lo hi : Option Int) : Dens K F (cutV xs lo hi) (cutD ds lo hi) := by
  unfold cutV cutD
  rw [h.length]
  exact (h.drop _).take _
theorem sl_lst {lo hi : Option Int} {ds : List D} (h : LstV m d1 ds) (k : R (.lst (cutD ds lo hi)) m) : SlX X d1 lo hi m R := .mk ⟨_, sl_list, fun F H x q at_ => by
  obtain ⟨p, xs, rfl, e1, s1⟩ := h.read at_.toAt q
  exact ⟨p, xs, rfl, .inl e1, fun l hl => new_lst at_ hl (s1.cut lo hi) k⟩⟩
end
end DL


namespace DL
open PySem PySem.Spec PyProof.Rows L2

/-! ### data as the library's data, == -/
mutual
def py : D → PyData
  | .non => .none | .bl b => .bool b | .int i => .int i | .str x => .str x
  | .lst xs => .list (pys xs) | .tup xs => .tuple (pys xs)
  | .ty _ => .none | .lsk _ => .none | .dI _ _ => .none | .dK _ _ => .none | .dO _ _ _ _ => .none | .obj _ _ _ => .none | .ref _ => .none | .exc _ _ _ _ => .none | .cls _ => .none
def pys : List D → List PyData
  | [] => []
  | x :: xs => py x :: pys xs
end
/-- plain data of depth at most n; no bools in NB -/
def Sh : Nat → D → Prop
  | _, .non => True
  | _, .bl _ => True
  | _, .int _ => True
  | _, .str _ => True
  | n + 1, .lst xs => ∀ x ∈ xs, Sh n x
  | n + 1, .tup xs => ∀ x ∈ xs, Sh n x
  | _, _ => False
def NB : Nat → D → Prop
  | _, .non => True
  | _, .int _ => True
  | _, .str _ => True
  | n + 1, .lst xs => ∀ x ∈ xs, NB n x
  | n + 1, .tup xs => ∀ x ∈ xs, NB n x
  | _, _ => False
theorem NB.sh : ∀ {n : Nat} {d : D}, NB n d → Sh n d
  | n, .non, _ => by cases n <;> trivial
  | n, .int _, _ => by cases n <;> trivial
  | n, .str _, _ => by cases n <;> trivial
  | n + 1, .lst xs, h => fun x hx => NB.sh (h x hx)
  | n + 1, .tup xs, h => fun x hx => NB.sh (h x hx)
  | 0, .lst _, h => h.elim
  | 0, .tup _, h => h.elim
  | n, .bl _, h => by cases n <;> exact h.elim
  | n, .ty _, h => by cases n <;> exact h.elim
  | n, .dI _ _, h => by cases n <;> exact h.elim
  | n, .lsk _, h => by cases n <;> exact h.elim
  | n, .dK _ _, h => by cases n <;> exact h.elim
  | n, .dO _ _ _ _, h => by cases n <;> exact h.elim
  | n, .obj _ _ _, h => by cases n <;> exact h.elim
  | n, .ref _, h => by cases n <;> exact h.elim
  | n, .exc _ _ _ _, h => by cases n <;> exact h.elim
  | n, .cls _, h => by cases n <;> exact h.elim
theorem pys_ok {n : Nat} (ih : ∀ d, Sh n d → (py d).plain = true ∧ (py d).depth ≤ n) : ∀ xs : List D, (∀ x ∈ xs, Sh n x) → PyData.plainAll (pys xs) = true ∧ PyData.depthAll (pys xs) ≤ n
  | [], _ => ⟨rfl, Nat.zero_le _⟩
  | x :: xs, h => by
    obtain ⟨a, b⟩ := ih x (h x List.mem_cons_self)
    obtain ⟨c, e⟩ := pys_ok ih xs fun y hy => h y (List.mem_cons_of_mem _ hy)
    exact ⟨by simp only [pys, PyData.plainAll, a, c, Bool.and_self], by simp only [pys, PyData.depthAll]; omega⟩
theorem Sh.ok : ∀ (n : Nat) (d : D), Sh n d → (py d).plain = true ∧ (py d).depth ≤ n
  | n, .non, _ => ⟨rfl, by simp [py, PyData.depth]⟩
  | n, .bl _, _ => ⟨rfl, by simp [py, PyData.depth]⟩
  | n, .int _, _ => ⟨rfl, by simp [py, PyData.depth]⟩
  | n, .str _, _ => ⟨rfl, by simp [py, PyData.depth]⟩
  | n + 1, .lst xs, h => by
    obtain ⟨a, b⟩ := pys_ok (Sh.ok n) xs h
    exact ⟨by simp only [py, PyData.plain, a], by simp only [py, PyData.depth]; omega⟩
  | n + 1, .tup xs, h => by
    obtain ⟨a, b⟩ := pys_ok (Sh.ok n) xs h
    exact ⟨by simp only [py, PyData.plain, a], by simp only [py, PyData.depth]; omega⟩
  | 0, .lst _, h => h.elim
  | 0, .tup _, h => h.elim
  | n, .ty _, h => by cases n <;> exact h.elim
  | n, .dI _ _, h => by cases n <;> exact h.elim
  | n, .lsk _, h => by cases n <;> exact h.elim
  | n, .dK _ _, h => by cases n <;> exact h.elim
  | n, .dO _ _ _ _, h => by cases n <;> exact h.elim
  | n, .obj _ _ _, h => by cases n <;> exact h.elim
  | n, .ref _, h => by cases n <;> exact h.elim
  | n, .exc _ _ _ _, h => by cases n <;> exact h.elim
  | n, .cls _, h => by cases n <;> exact h.elim
theorem pys_eqv {n k : Nat} (ih : ∀ a b, NB n a → NB k b → (PyData.eqv (py a) (py b) = true ↔ a = b)) : ∀ xs ys : List D, (∀ x ∈ xs, NB n x) → (∀ x ∈ ys, NB k x) → (PyData.eqvAll (pys xs) (pys ys) = true ↔ xs = ys)
  | [], [], _, _ => by simp [pys, PyData.eqvAll]
  | [], _ :: _, _, _ => by simp [pys, PyData.eqvAll]
  | _ :: _, [], _, _ => by simp [pys, PyData.eqvAll]
  | x :: xs, y :: ys, h, h' => by
    have a := ih x y (h x List.mem_cons_self) (h' y List.mem_cons_self)
    have b := pys_eqv ih xs ys (fun z hz => h z (List.mem_cons_of_mem _ hz)) fun z hz => h' z (List.mem_cons_of_mem _ hz)
    simp only [pys, PyData.eqvAll, Bool.and_eq_true, a, b, List.cons.injEq]
theorem eqv_iff : ∀ (n k : Nat) (a b : D), NB n a → NB k b → (PyData.eqv (py a) (py b) = true ↔ a = b) := by
  intro n
  induction n with
  | zero =>
    intro k a b ha hb
    cases a <;> first | exact ha.elim | (cases b <;> first | (cases k <;> exact hb.elim) | simp [py, PyData.eqv])
  | succ n ih =>
    intro k a b ha hb
    cases a with
    | lst xs =>
      cases b with
      | lst ys =>
        cases k with
        | zero => exact hb.elim
        | succ k =>
          have := pys_eqv (fun a b => ih k a b) xs ys ha hb
          simp only [py, PyData.eqv, this, D.lst.injEq]
      | _ => first | (cases k <;> exact hb.elim) | simp [py, PyData.eqv]
    | tup xs =>
      cases b with
      | tup ys =>
        cases k with
        | zero => exact hb.elim
        | succ k =>
          have := pys_eqv (fun a b => ih k a b) xs ys ha hb
          simp only [py, PyData.eqv, this, D.tup.injEq]
      | _ => first | (cases k <;> exact hb.elim) | simp [py, PyData.eqv]
    | _ => first | exact ha.elim | (cases b <;> first | (cases k <;> exact hb.elim) | simp [py, PyData.eqv])
theorem dp_all {K : Frag} {F : Hp} {n : Nat} (ih : ∀ d v, Sh n d → Den K F v d → Dp K F v (py d)) : ∀ (ds : List D) (vs : List V), (∀ x ∈ ds, Sh n x) → Dens K F vs ds → DpAll K F vs (pys ds)
  | [], _, _, .nil => .nil
  | d :: ds, _, h, .cons q qs => .cons (ih d _ (h d List.mem_cons_self) q) (dp_all ih ds _ (fun x hx => h x (List.mem_cons_of_mem _ hx)) qs)
theorem Den.dp {K : Frag} {F : Hp} : ∀ (n : Nat) (d : D) (v : V), Sh n d → Den K F v d → Dp K F v (py d)
  | n, .non, _, _, .non => .non
  | n, .bl _, _, _, .bl b => .bl b
  | n, .int _, _, _, .int i => .int i
  | n, .str _, _, _, .str x => .str x
  | n + 1, .lst ds, _, h, .lst q qs => .lst (.inl q) (dp_all (fun d v => Den.dp n d v) ds _ h qs)
  | n + 1, .tup ds, _, h, .tup q qs => .tup q (dp_all (fun d v => Den.dp n d v) ds _ h qs)
  | 0, .lst _, _, h, _ => h.elim
  | 0, .tup _, _, h, _ => h.elim
  | n, .ty _, _, h, _ => by cases n <;> exact h.elim
  | n, .dI _ _, _, h, _ => by cases n <;> exact h.elim
  | n, .lsk _, _, h, _ => by cases n <;> exact h.elim
  | n, .dK _ _, _, h, _ => by cases n <;> exact h.elim
  | n, .dO _ _ _ _, _, h, _ => by cases n <;> exact h.elim
  | n, .obj _ _ _, _, h, _ => by cases n <;> exact h.elim
  | n, .ref _, _, h, _ => by cases n <;> exact h.elim
  | n, .exc _ _ _ _, _, h, _ => by cases n <;> exact h.elim
  | n, .cls _, _, h, _ => by cases n <;> exact h.elim
mutual
theorem Dp.up {K : Frag} {F H : Hp} (e : Ex F H) : ∀ {v : V} {d : PyData}, Dp K F v d → Dp K H v d
  | _, _, .non => .non
  | _, _, .bl b => .bl b
  | _, _, .int i => .int i
  | _, _, .str x => .str x
  | _, _, .lst h hs => .lst (e.sqL h) (DpAll.up e hs)
  | _, _, .tup h hs => .tup (e.sqT h) (DpAll.up e hs)
theorem DpAll.up {K : Frag} {F H : Hp} (e : Ex F H) : ∀ {v : List V} {d : List PyData}, DpAll K F v d → DpAll K H v d
  | _, _, .nil => .nil
  | _, _, .cons h hs => .cons (Dp.up e h) (DpAll.up e hs)
end
/-- data seen through the ledger -/
def DV (m : Led) (d d' : D) : Prop := d = d' ∨ ∃ (i : Nat) (a : Addr) (ds : List D), d = .ref a ∧ m[i]? = some (a, .lst ds) ∧ d' = .lst ds
theorem DV.dp {K : Frag} {F H : Hp} {m : Led} {d d' : D} {v : V} {n : Nat} (h : DV m d d') (hs : Sh n d') (at_ : At K F m H) (q : Den K F v d) : Dp K H v (py d') := by
  rcases h with rfl | ⟨i, a, ds, rfl, hi, rfl⟩
  · exact Dp.up at_.sub (q.dp n _ _ hs)
  · cases q
    obtain ⟨hh, ⟨xs, rfl, qs⟩, e⟩ := at_.get hi
    cases n with
    | zero => exact hs.elim
    | succ n => exact .lst (.inl (.inl e)) (DpAll.up at_.sub (dp_all (fun d v => Den.dp n d v) ds _ hs qs))
section
variable {X : CD} {d1 d2 e1 e2 : D} {m : Led} {R : D → Led → Prop}
def rEqP (K : Frag) : R2 := fun x y H Q => ∃ d e, Dp K H x d ∧ Dp K H y e ∧ d.plain = true ∧ e.plain = true ∧ d.depth ≤ 64 ∧ Q (.bl (PyData.eqv d e)) H
def rNeP (K : Frag) : R2 := fun x y H Q => ∃ d e, Dp K H x d ∧ Dp K H y e ∧ d.plain = true ∧ e.plain = true ∧ d.depth ≤ 64 ∧ Q (.bl (!PyData.eqv d e)) H
theorem op_eqP (hu : X.A.units + 64 < cLine) : OpR X (compareOp .Eq) (rEqP X.K) := by
  intro pins s σ H x y v u Q I rx ry h
  obtain ⟨d, e, hd, he, pd, pe, hz, q⟩ := h
  obtain ⟨as, r1⟩ := Dp.reads I d x v hd rx
  obtain ⟨bs, r2⟩ := Dp.reads I e y u he ry
  have : min d.depth e.depth ≤ d.depth := Nat.min_le_left _ _
  exact SeqAt.eq_plain r1 r2 pd pe (by omega) ⟨.bl _, H, I, rfl, q⟩
theorem op_neP (hu : X.A.units + 64 < cLine) : OpR X (compareOp .NotEq) (rNeP X.K) := by
  intro pins s σ H x y v u Q I rx ry h
  obtain ⟨d, e, hd, he, pd, pe, hz, q⟩ := h
  obtain ⟨as, r1⟩ := Dp.reads I d x v hd rx
  obtain ⟨bs, r2⟩ := Dp.reads I e y u he ry
  have : min d.depth e.depth ≤ d.depth := Nat.min_le_left _ _
  exact SeqAt.ne_plain r1 r2 pd pe (by omega) ⟨.bl _, H, I, rfl, q⟩
end

/-! ### built-in calls -/
section
variable {X : CD} {a b e : Expr} {es : List Expr} {ρ : Rn} {m : Led} {R : D → Led → Prop} {x : Str} {p pos : Pos} {d d1 d2 : D} {i j : Int}
theorem x_cb {id : String} (h : AX X (e :: es) ρ m fun ds m1 => BX X (.builtin id) ds m1 R) (hm : X.mg x = none) (hv : bootBuiltins x = some (.builtin id) := by decide +kernel) (hg : Gl X x := by rfl) (hn : x ≠ "__name__" := by decide) (hdb : (x == ("__debug__" : Str)) = false := by decide)
    (he : starEach (e :: es) X.env = (false, eval e X.env) :: starEach es X.env := by rfl) (hpl : (backTo pos (starEach es X.env)).any (·.1) = false := by rfl) : EX X (.Call (.Name x p) (e :: es) [] pos) ρ m R := .mk fun F σ H en at_ => by
  intro pins s I
  refine wpAny_Call_Name_kw (ld_blt I hg hm hv ?_ hn hdb)
  refine PyProof.Rows.callWith_builtin1 (thn (h.run F σ H en at_ pos pins s I) fun us s1 ⟨vs, H1, I1, r1, ds, F1, m1, st, q, k⟩ => ?_) he hpl
  exact thn (BX.run k F1 σ H1 vs pins s1 us q (at_.to st) I1 r1) fun w s3 ⟨v3, H3, I3, r3, k⟩ => ⟨v3, H3, I3, r3, PQ.step st k⟩
theorem x_ct {T : String} (h : AX X (e :: es) ρ m fun ds m1 => BX X (.type T) ds m1 R) (hm : X.mg x = none) (hv : bootBuiltins x = some (.type T) := by decide +kernel) (hg : Gl X x := by rfl) (hn : x ≠ "__name__" := by decide) (hdb : (x == ("__debug__" : Str)) = false := by decide)
    (he : starEach (e :: es) X.env = (false, eval e X.env) :: starEach es X.env := by rfl) (hpl : (backTo pos (starEach es X.env)).any (·.1) = false := by rfl) : EX X (.Call (.Name x p) (e :: es) [] pos) ρ m R := .mk fun F σ H en at_ => by
  intro pins s I
  refine wpAny_Call_Name_kw (ld_blt I hg hm hv ?_ hn hdb)
  refine PyProof.Rows.callWith_type1 (thn (h.run F σ H en at_ pos pins s I) fun us s1 ⟨vs, H1, I1, r1, ds, F1, m1, st, q, k⟩ => ?_) he hpl
  exact thn (BX.run k F1 σ H1 vs pins s1 us q (at_.to st) I1 r1) fun w s3 ⟨v3, H3, I3, r3, k⟩ => ⟨v3, H3, I3, r3, PQ.step st k⟩
theorem Dens.one {K : Frag} {F : Hp} {xs : List V} (h : Dens K F xs [d]) : ∃ v, xs = [v] ∧ Den K F v d := by cases h with | cons a b => cases b; exact ⟨_, rfl, a⟩
theorem Dens.two {K : Frag} {F : Hp} {xs : List V} (h : Dens K F xs [d1, d2]) : ∃ v w, xs = [v, w] ∧ Den K F v d1 ∧ Den K F w d2 := by
  cases h with
  | cons a b => cases b with | cons c e => cases e; exact ⟨_, _, rfl, a, c⟩
theorem b_len {ds : List D} (h : LstV m d ds) (k : R (.int ds.length) m) : BX X (.builtin "len") [d] m R := BX.of call_len_seq fun F H xs qs at_ => by
  obtain ⟨v, rfl, q⟩ := qs.one
  obtain ⟨p, ys, rfl, e1, s1⟩ := h.read at_.toAt q
  exact ⟨p, ys, rfl, .inl (.inl e1), by rw [s1.length]; exact PQ.now at_ (.int _) k⟩
theorem b_lenT {ds : List D} (k : R (.int ds.length) m) : BX X (.builtin "len") [.tup ds] m R := BX.of call_len_seq fun F H xs qs at_ => by
  obtain ⟨v, rfl, q⟩ := qs.one
  obtain ⟨p, ys, rfl, e1, s1⟩ := tup_read at_.toAt q
  exact ⟨p, ys, rfl, .inr e1, by rw [s1.length]; exact PQ.now at_ (.int _) k⟩
theorem b_lenS {z : Str} (hz : z.length ≤ 100000) (k : R (.int z.length) m) : BX X (.builtin "len") [.str z] m R := BX.of call_len_str fun F H xs qs at_ => by
  obtain ⟨v, rfl, q⟩ := qs.one
  exact ⟨z, by rw [q.str_inv], lenOk hz, PQ.now at_ (.int _) k⟩
theorem b_abs (k : R (.int (i.natAbs : Int)) m) : BX X (.builtin "abs") [.int i] m R := BX.of call_abs fun F H xs qs at_ => by
  obtain ⟨v, rfl, q⟩ := qs.one
  refine ⟨i, by rw [q.int_inv], ?_⟩
  have e : (if i < 0 then -i else i) = (i.natAbs : Int) := by split <;> omega
  rw [e]
  exact PQ.now at_ (.int _) k
theorem b_max2 (k : R (.int (max i j)) m) (hc : X.calm = true := by rfl) : BX X (.builtin "max") [.int i, .int j] m R := BX.of (call_max2 hc) fun F H xs qs at_ => by
  obtain ⟨v, w, rfl, q1, q2⟩ := qs.two
  refine ⟨i, j, by rw [q1.int_inv, q2.int_inv], ?_⟩
  have e : (if j > i then j else i) = max i j := by split <;> omega
  rw [e]
  exact PQ.now at_ (.int _) k
theorem b_int (k : R (.int i) m) : BX X (.type "int") [.int i] m R := BX.of call_int1 fun F H xs qs at_ => by
  obtain ⟨v, rfl, q⟩ := qs.one
  exact .inl ⟨i, by rw [q.int_inv], PQ.now at_ (.int _) k⟩
theorem b_intB {c : Bool} (k : R (.int (if c then 1 else 0)) m) : BX X (.type "int") [.bl c] m R := BX.of call_int1 fun F H xs qs at_ => by
  obtain ⟨v, rfl, q⟩ := qs.one
  exact .inr ⟨c, by rw [q.bl_inv], PQ.now at_ (.int _) k⟩
theorem b_list {ds : List D} (h : LstV m d ds) (k : R (.lst ds) m) : BX X (.type "list") [d] m R := BX.of call_list_of fun F H xs qs at_ => by
  obtain ⟨v, rfl, q⟩ := qs.one
  obtain ⟨p, ys, rfl, e1, s1⟩ := h.read at_.toAt q
  exact ⟨p, ys, rfl, .inl (.inl e1), fun l hl => new_lst at_ hl s1 k⟩
theorem b_listK {ds : List D} (k : R (.lst ds) m) : BX X (.type "list") [.lsk ds] m R := BX.of call_list_of fun F H xs qs at_ => by
  obtain ⟨v, rfl, q⟩ := qs.one
  cases q with
  | lsk h hs => exact ⟨_, _, rfl, .inl (at_.sub.sqL h), fun l hl => new_lst at_ hl hs k⟩
theorem b_listT {ds : List D} (k : R (.lst ds) m) : BX X (.type "list") [.tup ds] m R := BX.of call_list_of fun F H xs qs at_ => by
  obtain ⟨v, rfl, q⟩ := qs.one
  obtain ⟨p, ys, rfl, e1, s1⟩ := tup_read at_.toAt q
  exact ⟨p, ys, rfl, .inr e1, fun l hl => new_lst at_ hl s1 k⟩
theorem b_all {bs : List Bool} (h : LstV m d (bs.map D.bl)) (k : R (.bl (bs.all id)) m) (hc : X.calm = true := by rfl) : BX X (.builtin "all") [d] m R := BX.of (cr_all hc) fun F H xs qs at_ => by
  obtain ⟨v, rfl, q⟩ := qs.one
  obtain ⟨p, ys, rfl, e1, s1⟩ := h.read at_.toAt q
  exact ⟨p, bs, rfl, by rw [← s1.bls]; exact .inl e1, PQ.now at_ (.bl _) k⟩
/-! isinstance -/
def tyD : D → Option String
  | .non => some "NoneType" | .bl _ => some "bool" | .int _ => some "int" | .str _ => some "str" | .lst _ => some "list" | .tup _ => some "tuple" | _ => none
end
end DL


namespace DL
open PySem PySem.Spec PyProof.Rows L2

/-! ### steps about an object that is neither frozen nor in the ledger -/
section
variable {K : Frag} {F F2 H H2 : Hp} {m m2 : Led} {p : Addr} {o : HO}
theorem At.notkey (a : At K F m H) (h : H p = none) : p ∉ keys m := fun z => by
  obtain ⟨q, hq, e⟩ := List.mem_map.mp z
  obtain ⟨hh, _, e2⟩ := a.led q hq
  rw [e, h] at e2; cases e2
theorem At.poke (a : At K F m H) (hF : F p = none) (hk : p ∉ keys m) : At K F m (upd H p o) :=
  ⟨fun x u e => by rw [upd_ne (ne_of_none e hF)]; exact a.sub x u e, fun q hq => by
    obtain ⟨hh, e1, e2⟩ := a.led q hq
    exact ⟨hh, e1, by rw [upd_ne (fun z : q.1 = p => hk (z ▸ List.mem_map.mpr ⟨q, hq, rfl⟩))]; exact e2⟩, a.dis, a.nod⟩
theorem Step.poke (s : Step K F m H F2 m2 H2) (hp : H p = none) (hF : F2 p = none) (hk : p ∉ keys m2) : Step K F m H F2 m2 (upd H2 p o) :=
  ⟨s.at2.poke hF hk, s.ex, fun a u e n => by rw [upd_ne (ne_of_none e hp)]; exact s.keep a u e n, s.frF, s.frM⟩
theorem Step.take (s : Step K F m H F2 m2 H2) (hp : H p = none) (hF : F2 p = none) (hk : p ∉ keys m2) (ho : H2 p = some o) : Step K F m H (upd F2 p o) m2 H2 := by
  refine ⟨⟨fun x u e => ?_, fun q hq => ?_, fun q hq => ?_, s.at2.nod⟩, s.ex.trans (Ex.new hF), s.keep, fun x u e n => ?_, s.frM⟩
  · by_cases hx : x = p
    · subst hx; rw [upd_same] at e; cases e; exact ho
    · rw [upd_ne hx] at e; exact s.at2.sub x u e
  · obtain ⟨hh, e1, e2⟩ := s.at2.led q hq
    exact ⟨hh, e1.mono (Ex.new hF), e2⟩
  · rw [upd_ne (fun z : q.1 = p => hk (z ▸ List.mem_map.mpr ⟨q, hq, rfl⟩))]; exact s.at2.dis q hq
  · by_cases hx : x = p
    · subst hx; exact .inl hp
    · rw [upd_ne hx] at e; exact s.frF x u e n
/-- what stays of such an object through a step -/
theorem Step.stay (s : Step K F m H F2 m2 H2) (hF : F p = none) (hk : p ∉ keys m) (ho : H p = some o) : H2 p = some o ∧ F2 p = none ∧ p ∉ keys m2 := by
  refine ⟨s.keep p o ho hk, ?_, fun z => ?_⟩
  · cases e : F2 p with
    | none => rfl
    | some u =>
      rcases s.frF p u e hF with z | z
      · rw [ho] at z; cases z
      · exact absurd z hk
  · rcases s.frM p z with q | q
    · exact hk q
    · rw [ho] at q; cases q
end

/-! ### calls of defs -/
abbrev SpD := List D → Led → (D → Led → Prop) → Prop
def lift (K : Frag) (sp : SpD) : Sp := fun vs H Q _ => ∃ F m ds R, Dens K F vs ds ∧ At K F m H ∧ sp ds m R ∧ ∀ d m2 v F2 H2, R d m2 → Step K F m H F2 m2 H2 → Den K F2 v d → Q v H2
/-- a def that stands in the module, by its promise -/
structure Knows (P : Program) (w : World) (K : Frag) (mg : Str → Option Value) (base : Heap) (k : Nat) (x : Str) (n : Nat) (sp : SpD) : Prop where
  fn : ∃ f fd ps, FnOk P w K mg base CX0 k f fd ps (lift K sp) ∧ mg x = some (.ref f) ∧ PySem.W.keepIn K (.ref f) = true ∧ Binds K fd ps [] ∧ ps.length = n
section
variable {X : CD} {e : Expr} {es : List Expr} {ρ : Rn} {m : Led} {R : D → Led → Prop} {x : Str} {p pos : Pos} {k n : Nat} {sp : SpD}
end

/-! ### statements -/
section
variable {X : CD} {e c tg it : Expr} {es : List Expr} {st : Stmt} {sts a b body : List Stmt} {ρ : Rn} {m : Led} {E : EndsD} {x : Str} {pos pos' p : Pos} {i : Nat}
theorem s_nil (h : E.nx ρ m) : SX X [] ρ m E := .mk fun F σ H en at_ => SSs.of pss_nil ⟨ρ, F, m, Step.refl at_, en, h⟩
theorem s_cons (h : S1 X st ρ m { E with nx := fun ρ' m' => SX X sts ρ' m' E }) : SX X (st :: sts) ρ m E := .mk fun F σ H en at_ => by
  refine SSs.of (pss_cons ps_SS pss_SS) ?_
  refine (h.run F σ H en at_).mono (fun σ2 H2 ⟨ρ2, F2, m2, s2, en2, k⟩ => ?_) (fun _ _ q => q) (fun _ _ q => q) fun _ _ q => q
  exact SSs.step s2 (SX.run k F2 σ2 H2 en2 (at_.to s2))
theorem s_ret (h : EX X e ρ m E.rt) : S1 X (.Return (some e) pos) ρ m E := .mk fun F σ H en at_ => SS.of (ps_ret (pe_SE (e := e))) (h.run F σ H en at_)
theorem s_if (h : TX X c ρ m fun k m1 => (k = true → SX X a ρ m1 E) ∧ (k = false → SX X b ρ m1 E)) : S1 X (.If c a b pos) ρ m E := .mk fun F σ H en at_ =>
  SS.of (ps_if (pt_ST (e := c)) (pss_SS (sts := a)) (pss_SS (sts := b))) (h.go en at_ fun k F1 m1 H1 s1 en1 r => by
    cases k with
    | true => exact SSs.step s1 ((r.1 rfl).run F1 σ H1 en1 s1.at2)
    | false => exact SSs.step s1 ((r.2 rfl).run F1 σ H1 en1 s1.at2))
theorem s_set (h : EX X e ρ m fun d m1 => ∃ i ρ', SetAt ρ i x d ρ' ∧ E.nx ρ' m1) (hx : Loc X.env.scope x := by first | exact Or.inl rfl | exact Or.inr rfl) (hs : swapsWith e (some (.Name x pos')) pos.line X.env = pure false := by rfl)
    (hf : X.fn x = true ∨ X.env.scope.names.lookup x = some .local := by first | exact .inl rfl | exact .inr rfl | assumption) : S1 X (.Assign [.Name x pos'] e pos) ρ m E := .mk fun F σ H en at_ => by
  intro pins s I
  refine wpAny_Assign_Name (thn (h.run F σ H en at_ pins s I) fun v s1 ⟨y, H1, I1, r1, d, F1, m1, st, q, i, ρ', hset, k⟩ => ?_) hs
  exact store_ok I1 en.nd (en.ix hset) hx r1 (fun s2 I2 => ⟨_, H1, I2, ρ', F1, m1, st, (en.mono st.ex).set hset q, k⟩) hf
/-- name = [..] by a comprehension on one line -/
theorem g_name {R : Rn → Led → Prop} {d : D} {ρ' : Rn} (hset : SetAt ρ i x d ρ') (k : R ρ' m) (hx : Loc X.env.scope x := by first | exact Or.inl rfl | exact Or.inr rfl) (hf : X.fn x = true ∨ X.env.scope.names.lookup x = some .local := by first | exact .inl rfl | exact .inr rfl | assumption) : GX X (.Name x pos) d ρ m R := .mk fun F σ H v en at_ q =>
  SG.of (pg_name en.nd (en.ix hset) hx hf) ⟨ρ', F, m, Step.refl at_, en.set hset q, k⟩
structure GsX (X : CD) (ts : List Expr) (ds : List D) (ρ : Rn) (m : Led) (R : Rn → Led → Prop) : Prop where
  ex : ∃ t, PGs X ts t ∧ ∀ F σ H vs, Env X F σ ρ → AtX X F m H → Dens X.K F vs ds → t vs σ H (PN X F m H R)
theorem PGs.mono {ts : List Expr} {t : TGs} (h : PGs X ts t) : PGs X ts fun vs σ H Q => ∃ Q', t vs σ H Q' ∧ ∀ σ H, Q' σ H → Q σ H := ⟨fun pins s σ H vs us Q I r ⟨Q', q1, q2⟩ => thn (h.run pins s σ H vs us Q' I r q1) fun _ s' ⟨σ', H', I', k⟩ => ⟨σ', H', I', q2 _ _ k⟩⟩
theorem PGs.any {ts : List Expr} : PGs X ts fun vs σ H Q => ∃ t, PGs X ts t ∧ t vs σ H Q := ⟨fun pins s σ H vs us Q I r ⟨t, q1, q2⟩ => q1.run pins s σ H vs us Q I r q2⟩
/-- target = value -/
theorem s_asg (h : EX X e ρ m fun d m1 => GX X tg d ρ m1 E.nx) (hs : swapsWithSole [tg] e pos.line X.env = pure false := by rfl) (hw : swappedStores [tg] e X.env = pure none := by rfl)
    (h1 : (assignEach [tg] X.env).map (·.2) = [assign tg X.env] := by rfl) : S1 X (.Assign [tg] e pos) ρ m E := .mk fun F σ H en at_ =>
  SS.of (ps_asg (pe_SE (e := e)) (pg_SG (tg := tg)) hs hw h1) (h.go en at_ fun v d F1 m1 H1 s1 en1 q r => (GX.run r F1 σ H1 v en1 s1.at2 q).mono fun _ _ k => PN.step s1 k)
/-- a, b = x, y -/
theorem s_par {y : Str} {a b : Expr} {px py pt pt2 : Pos} {kt k2 : Nat} (h : AX X [a, b] ρ m fun ds m1 => ∃ d1 d2 i j ρ1 ρ2, ds = [d1, d2] ∧ SetAt ρ i x d1 ρ1 ∧ SetAt ρ1 j y d2 ρ2 ∧ i ≠ j ∧ E.nx ρ2 m1)
    (hw : swappedStores [.Tuple [.Name x px, .Name y py] kt pt] (.Tuple [a, b] k2 pt2) X.env = pure (some [x, y]) := by rfl) (hx : X.env.scope.names.lookup x = some .local := by rfl) (hy : X.env.scope.names.lookup y = some .local := by rfl) (hc : X.calm = true := by rfl)
    (hs : swapsWithSole [.Tuple [.Name x px, .Name y py] kt pt] (.Tuple [a, b] k2 pt2) pos.line X.env = pure false := by rfl) :
    S1 X (.Assign [.Tuple [.Name x px, .Name y py] kt pt] (.Tuple [a, b] k2 pt2) pos) ρ m E := .mk fun F σ H en at_ => by
  intro pins s I
  rw [exec_Assign_arm]
  refine wpAny_bind (wpAny_standAt ?_)
  rw [hs]
  refine wpAny_bind (wpAny_pure ?_)
  rw [if_neg (by decide)]
  refine wpAny_bind (Tuple_ (thn (h.run F σ H en at_ _ pins s I) fun us s1 ⟨vs, H1, I1, r1, ds, F1, m1, st, qd, d1, d2, i, j, ρ1, ρ2, ed, hi, hj, hij, k⟩ => ?_))
  subst ed
  obtain ⟨v, w, rfl, q1, q2⟩ := qd.two
  obtain ⟨u1, u2, rfl, rv, rw'⟩ := vals2 r1
  refine wpAny_newObj_type ?_ (by show 2 ≤ sizeLine; decide)
  have I2 : Inv X pins σ H1 { s1 with heap := s1.heap.push { cls := .type "tuple", data := .seq [u1, u2].toArray } } := I1.kept (t' := s1.toks) fun b o e => Heap.get?_push_of_some _ e
  rw [hw]
  refine wpAny_bind (wpAny_pure ?_)
  show wpAny (model X.prog X.w) X.A (do rule "assign.swapped-stores"; let items ← unpackItems (.ref s1.heap.objs.size) 2 none; assignInOrder [fun v => bindName X.env y v, fun v => bindName X.env x v] items.reverse; pure Flow.next) _ _ _
  refine wpAny_bind (wpAny_rule (wpAny_bind (unpackItems_tuple (items := #[u1, u2]) (I.ok.hd hc) (IsTup.new s1.heap _) fun h' hx' => ?_)))
  have I3 := I2.kept (h' := h') (t' := s1.toks) fun b o e => hx' b o (Nat.ne_of_lt (Heap.lt_size e)) e
  show wpAny _ _ (assignInOrder [fun v => bindName X.env y v, fun v => bindName X.env x v] [u2, u1] >>= fun _ => pure Flow.next) _ _ _
  have en1 := en.mono st.ex
  have en2 := en1.set hi q1
  have en3 := en2.set hj q2
  refine wpAny_bind (assignInOrder_cons (wpAny_bindName (store_ok I3 en.nd (en2.ix hj) (.inl hy) rw' (fun s2 I4 => ?_) (.inr hy))))
  refine assignInOrder_cons (wpAny_bindName (store_ok I4 en.nd (en.ix hi) (.inl hx) rv (fun s3 I5 => assignInOrder_nil (wpAny_pure ?_)) (.inr hx)))
  rw [List.set_comm _ _ (Ne.symm hij)] at I5
  exact ⟨_, H1, I5, ρ2, F1, m1, st, en3, k⟩
/-- name op= e, of a name that holds an int -/
def IpX (X : CD) (op : Operator) (d1 d2 : D) (m : Led) (R : D → Led → Prop) : Prop := OX X (inplaceOp op) d1 d2 m R
/-- o[i] = v -/
structure StX (X : CD) (d1 d2 d3 : D) (m : Led) (R : Led → Prop) : Prop where
  ex : ∃ t : TSet, PSet X t ∧ ∀ F H o i v, Den X.K F o d1 → Den X.K F i d2 → Den X.K F v d3 → AtX X F m H → t o i v H fun H2 => ∃ F2 m2, Step X.K F m H F2 m2 H2 ∧ R m2
theorem PSet.any : PSet X fun o i v H Q => ∃ (t : TSet) (Q' : Hp → Prop), PSet X t ∧ t o i v H Q' ∧ ∀ H', Q' H' → Q H' := fun pins s σ H o i v ov iv u Q I r1 r2 r3 ⟨t, Q', pt, q, k⟩ => thn (pt pins s σ H o i v ov iv u Q' I r1 r2 r3 q) fun _ s' ⟨H', I', z⟩ => ⟨H', I', k H' z⟩
theorem g_sub {o ix : Expr} {d : D} {R : Rn → Led → Prop} (h : EX X o ρ m fun d1 m1 => EX X ix ρ m1 fun d2 m2 => StX X d1 d2 d m2 fun m3 => R ρ m3)
    (ha : ∀ v, assign (.Subscript o ix pos) X.env v = (do
      let ov ← holding [v] (eval o X.env)
      let iv ← holding [v, ov] (eval ix X.env)
      standAt pos
      holding [v, ov, iv] (setItem ov iv v)
      release [v, ov, iv] []) := by intro _; rfl) : GX X (.Subscript o ix pos) d ρ m R := .mk fun F σ H v en at_ q => by
  refine SG.of (pg_sub (pe_SE (e := o)) (pe_SE (e := ix)) PSet.any ha) ?_
  refine h.go en at_ fun v1 d1 F1 m1 H1 s1 en1 q1 r1 => r1.go en1 s1.at2 fun v2 d2 F2 m2 H2 s2 en2 q2 ⟨⟨t, pt, r2⟩⟩ => ?_
  have st := s1.trans s2.st
  exact ⟨t, _, pt, r2 F2 H2 v1 v2 v (q1.mono s2.ex) q2 (q.mono st.ex) s2.at2, fun H' ⟨F3, m3, s3, k⟩ => ⟨ρ, F3, m3, st.trans s3, en2.mono s3.ex, k⟩⟩
theorem st_lst {j n : Nat} {a : Addr} {i : Int} {d : D} {ds : List D} {R : Led → Prop} (hm : m[n]? = some (a, .lst ds)) (hj : ixN ds.length i = some j) (k : R (m.set n (a, .lst (ds.set j d)))) : StX X (.ref a) (.int i) d m R := .mk ⟨_, set_list, fun F H o ix v q1 q2 q3 at_ => by
  cases q1
  obtain ⟨hh, ⟨xs, rfl, hs⟩, e⟩ := at_.get hm
  refine ⟨a, xs, i, j, rfl, q2.int_inv, e, by rw [hs.length]; exact hj, ?_⟩
  exact ⟨F, _, Step.write (o' := .lst (ds.set j d)) at_ hm ⟨_, rfl, hs.set j q3⟩, k⟩⟩
end

/-! ### methods of lists -/
section
variable {X : CD} {o e : Expr} {es : List Expr} {ρ : Rn} {m : Led} {R : D → Led → Prop} {apos cpos : Pos} {n : Nat} {a : Addr} {ds : List D}
end
end DL


namespace DL
open PySem PySem.Spec PyProof.Rows L2 RZ

/-! ### what is walked -/
section
variable {X : CD} {tg it a b : Expr} {ρ : Rn} {m : Led} {R : List D → Led → Prop} {p pos tpos : Pos}
theorem yd_at {K : Frag} {F1 H2 : Hp} {xs : List V} {ds : List D} {i : Nat} {x : V} {H3 : Hp} (hs : Dens K F1 xs ds) (y : YAt xs i H2 x H3) : YD K F1 ds i H2 x H3 := fun F2 m2 e at_ => by
  obtain ⟨rfl, hx⟩ := y
  obtain ⟨d, hd, q⟩ := hs.getV hx
  exact ⟨F2, d, hd, Step.refl at_, q.mono e⟩
theorem ix_tup (h : EX X it ρ m fun d m1 => ∃ ds, d = .tup ds ∧ R ds m1) : IX X tg it ρ m R := .mk fun F σ H en at_ =>
  SI.of (pi_tup (pe_SE (e := it))) (h.go en at_ fun v d F1 m1 H1 s1 en1 q ⟨ds, ed, r⟩ => by
    subst ed
    cases q with
    | tup hq hs => exact ⟨_, rfl, ⟨_, s1.at2.sub.sqT hq⟩, ds, F1, m1, s1, r, by rw [← hs.length]; exact walk_tup.mono (fun H' e => e.sqT hq) fun i H' x H'' _ _ y => yd_at hs y⟩)
/-- lo, lo + 1, .. n of them -/
def rangeD (lo : Int) (n : Nat) : List D := (List.range n).map fun (k : Nat) => D.int (lo + (k : Int))
theorem rangeD_len (lo : Int) (n : Nat) : (rangeD lo n).length = n := by unfold rangeD; rw [List.length_map, List.length_range]
theorem rangeD_get {lo : Int} {n i : Nat} (h : i < n) : (rangeD lo n)[i]? = some (.int (lo + (i : Int))) := by
  unfold rangeD
  rw [List.getElem?_map, List.getElem?_range h]; rfl
theorem walk_rangeD {K : Frag} {F1 : Hp} {lo : Int} {n : Nat} : Walk (Itr lo n) (rangeD lo n).length (fun H2 => Ex F1 H2) (YD K F1 (rangeD lo n)) := by
  rw [rangeD_len]
  refine walk_range.mono (fun _ _ => trivial) fun i H' x H'' hi _ y F2 m2 e at_ => ?_
  obtain ⟨rfl, rfl⟩ := y
  exact ⟨F2, _, rangeD_get hi, Step.refl at_, .int _⟩
theorem ix_range1 (h : EX X a ρ m fun d m1 => ∃ j : Int, d = .int j ∧ -100000 ≤ j ∧ j ≤ 100000 ∧ R (rangeD 0 j.toNat) m1) (hm : X.mg "range" = none) (hg : Gl X "range" := by rfl) (hs : starEach [a] X.env = [(false, eval a X.env)] := by rfl) : IX X tg (.Call (.Name "range" p) [a] [] pos) ρ m R := .mk fun F σ H en at_ =>
  SI.of (pi_range1 hg hm (pa_cons (pe_SE (e := a)) pa_nil hs) hs) (h.go en at_ fun v d F1 m1 H1 s1 en1 q ⟨j, ed, h1, h2, r⟩ => by
    subst ed
    exact ⟨j, by rw [q.int_inv], by omega, by omega, _, F1, m1, s1, r, walk_rangeD⟩)
/-- pairs -/
def zipD : List D → List D → List D
  | a :: as, b :: bs => .tup [a, b] :: zipD as bs
  | _, _ => []
/-- enumerate -/
def enumD (as : List D) : List D := zipD (rangeD 0 as.length) as
end

/-! ### for, while -/
section
variable {X : CD} {c tg it : Expr} {body : List Stmt} {ρ : Rn} {m : Led} {E : EndsD} {pos : Pos}
def ForI (X : CD) (tg : Expr) (body : List Stmt) (ρ : Rn) (E : EndsD) (ds : List D) (m1 : Led) : Prop := ∃ I : Nat → Rn → Led → Prop, I 0 ρ m1 ∧
  (∀ i d ρ' m', ds[i]? = some d → I i ρ' m' → GX X tg d ρ' m' fun ρ2 m2 => SX X body ρ2 m2 { E with nx := I (i + 1), ct := I (i + 1), bk := E.nx }) ∧ ∀ ρ' m', I ds.length ρ' m' → E.nx ρ' m'
theorem s_for (h : IX X tg it ρ m (ForI X tg body ρ E)) (hc : X.calm = true := by rfl) (hs : ∀ x, foldedSetIterable it X.env x = pure x := by intro _; rfl) : S1 X (.For tg it body [] pos) ρ m E := .mk fun F σ H en at_ => by
  refine SS.of (ps_for at_.po hc (pi_SI (it := it)) (pg_SG (tg := tg)) (pss_SS (sts := body)) hs) ?_
  refine (h.run F σ H en at_).mono fun J H1 ⟨ds, F1, m1, st, ⟨I, i0, turn, done⟩, w⟩ => ?_
  refine for_it w (fun i σ' H' => ∃ ρ' F' m', Step X.K F1 m1 H1 F' m' H' ∧ Env X F' σ' ρ' ∧ I i ρ' m') ⟨ρ, F1, m1, Step.refl st.at2, en.mono st.ex, i0⟩ (fun i σ' H' _ ⟨ρ', F', m', s', _, _⟩ => s'.ex.trans s'.at2.sub) (fun i x σ' H' H'' hi ⟨ρ', F', m', s', en', hI⟩ y => ?_) (fun σ' H' ⟨ρ', F', m', s', en', hI⟩ => ⟨ρ', F', m', st.trans s', en', done ρ' m' hI⟩)
  obtain ⟨F3, d, hd, s3, q⟩ := y F' m' s'.ex s'.at2
  refine ((turn i d ρ' m' hd hI).run F3 σ' H'' x (en'.mono s3.ex) (at_.to (st.trans (s'.trans s3))) q).mono fun σ2 H2 ⟨ρ2, F4, m4, s4, en4, sx⟩ => ?_
  have sa := (s'.trans s3).trans s4
  refine (SX.run sx F4 σ2 H2 en4 (at_.to (st.trans sa))).mono (fun σ5 H5 ⟨ρ5, F5, m5, s5, en5, k⟩ => ⟨ρ5, F5, m5, sa.trans s5, en5, k⟩) (fun v H5 k => PQ.step (st.trans sa) k) (fun σ5 H5 ⟨ρ5, F5, m5, s5, en5, k⟩ => ⟨ρ5, F5, m5, (st.trans sa).trans s5, en5, k⟩) (fun σ5 H5 ⟨ρ5, F5, m5, s5, en5, k⟩ => ⟨ρ5, F5, m5, sa.trans s5, en5, k⟩)
theorem s_while (W : Nat → Rn → Led → Prop) (n0 : Nat) (h0 : W n0 ρ m) (hs : ∀ n ρ' m', W n ρ' m' → TX X c ρ' m' fun k m1 => (k = true → SX X body ρ' m1 { E with nx := fun ρ2 m2 => ∃ n2, n2 < n ∧ W n2 ρ2 m2, ct := fun ρ2 m2 => ∃ n2, n2 < n ∧ W n2 ρ2 m2, bk := E.nx }) ∧ (k = false → E.nx ρ' m1))
    : S1 X (.While c body [] pos) ρ m E := .mk fun F σ H en at_ => by
  refine SS.of (ps_while at_.po (pt_ST (e := c)) (pss_SS (sts := body))) ?_
  refine ⟨fun n σ' H' => ∃ ρ' F' m', Step X.K F m H F' m' H' ∧ Env X F' σ' ρ' ∧ W n ρ' m', ⟨n0, ρ, F, m, Step.refl at_, en, h0⟩, fun n σ' H' ⟨ρ', F', m', s', en', w'⟩ => ?_⟩
  refine (hs n ρ' m' w').go en' (at_.to s') fun k F1 m1 H1 s1 en1 r => ?_
  have sa := s'.trans s1.st
  cases k with
  | true =>
    rw [if_pos rfl]
    refine ⟨fun σ2 H2 => ∃ n2, n2 < n ∧ ∃ ρ' F' m', Step X.K F m H F' m' H2 ∧ Env X F' σ2 ρ' ∧ W n2 ρ' m', fun _ _ q => q, ?_⟩
    refine ((r.1 rfl).run F1 σ' H1 en1 s1.at2).mono (fun σ5 H5 ⟨ρ5, F5, m5, s5, en5, n2, hn, k⟩ => ⟨n2, hn, ρ5, F5, m5, sa.trans s5, en5, k⟩) (fun v H5 k => PQ.step sa k) (fun σ5 H5 ⟨ρ5, F5, m5, s5, en5, k⟩ => ⟨ρ5, F5, m5, sa.trans s5, en5, k⟩) (fun σ5 H5 ⟨ρ5, F5, m5, s5, en5, n2, hn, k⟩ => ⟨n2, hn, ρ5, F5, m5, sa.trans s5, en5, k⟩)
  | false =>
    rw [if_neg Bool.false_ne_true]
    exact ⟨ρ', F1, m1, sa, en1, r.2 rfl⟩
end

/-! ### comprehensions -/
inductive SlotAt : Rn → Nat → Str → Prop
  | here {x : Str} {o : Option D} {r : Rn} : SlotAt ((x, o) :: r) 0 x
  | there {x : Str} {r : Rn} {q : Str × Option D} {i : Nat} : SlotAt r i x → SlotAt (q :: r) (i + 1) x
theorem SlotAt.ix : ∀ {ρ : Rn} {i : Nat} {x : Str}, SlotAt ρ i x → (ρ.map (·.1))[i]? = some x
  | _, _, _, .here => rfl
  | _, _, _, .there h => by rw [List.map_cons, List.getElem?_cons_succ]; exact h.ix
theorem SlotAt.set : ∀ {ρ : Rn} {i : Nat} {x : Str}, SlotAt ρ i x → ∀ d, ∃ ρ', SetAt ρ i x d ρ'
  | _, _, _, .here, d => ⟨_, .here⟩
  | _, _, _, .there h, d => let ⟨_, k⟩ := h.set d; ⟨_, .there k⟩
section
variable {X : CD} {elt it : Expr} {scope : Scope} {ρ : Rn} {m : Led} {R : D → Led → Prop} {pos py : Pos} {y : Str} {j : Nat}
theorem wipe1 {F : Hp} {σ : L2.St} {ρ2 : Rn} {d : D} {v : V} (en : Env X F σ ρ) (hset : SetAt ρ j y d ρ2) (q : Den X.K F v d) : Env X F ((L2.wipe σ [j]).set j (some v)) ρ2 := by
  have e : (L2.wipe σ [j]).set j (some v) = σ.set j (some v) := by
    show ((σ.set j none).set j (some v)) = _
    rw [List.set_set]
  rw [e]
  exact en.set hset q
theorem Env.blk {F : Hp} {σ : L2.St} {s : Shared} {H0 : Hp} {cenv : PySem.Env} {fp : List Addr} (en : Env X F σ ρ) : Env (X.blk s H0 scope cenv fp) F σ ρ := ⟨en.nd, en.nm, en.ev⟩
abbrev CD.blk (X : CD) (s : Shared) (H : Hp) (scope : Scope) (env : PySem.Env) (fp : List Addr) : CD := ⟨X.toCx.blk s H scope env fp, fun _ _ _ _ => False⟩
/-- what a turn of a comprehension asks: acc is what has been made -/
def CompI (X : CD) (scope : Scope) (ifs : List Expr) (elt : Expr) (y : Str) (j : Nat) (ρ : Rn) (R : List D → Led → Prop) (ds : List D) (m1 : Led) : Prop := ∃ I : Nat → List D → Led → Prop, I 0 [] m1 ∧
  (∀ i d acc m', ds[i]? = some d → I i acc m' → ∃ ρ2, SetAt ρ j y d ρ2 ∧ ∀ (s : Shared) (H0 : Hp) (C : Addr) (cl : List (Str × Addr)) (fp : List Addr),
    match ifs with
    | [] => EX (X.blk s H0 scope (compEnvC scope cl C X.env) fp) elt ρ2 m' fun z m3 => acc.length < 100000 ∧ I (i + 1) (acc ++ [z]) m3
    | [c] => TX (X.blk s H0 scope (compEnvC scope cl C X.env) fp) c ρ2 m' fun k m2 => (k = true → ∀ (s : Shared) (H0 : Hp) (C : Addr) (cl : List (Str × Addr)) (fp : List Addr), EX (X.blk s H0 scope (compEnvC scope cl C X.env) fp) elt ρ2 m2 fun z m3 => acc.length < 100000 ∧ I (i + 1) (acc ++ [z]) m3) ∧ (k = false → I (i + 1) acc m2)
    | _ => False) ∧ ∀ acc m', I ds.length acc m' → R acc m'
def STs (X : CD) (scope : Scope) (ifs : List Expr) : TT := fun σ H Q => match ifs with
  | [] => Q true H
  | [c] => ∀ s H0 C cl fp, ST (X.blk s H0 scope (compEnvC scope cl C X.env) fp) c σ H Q
  | _ => False
theorem pts_STs {ifs : List Expr} (s : Shared) (H0 : Hp) (C : Addr) (cl : List (Str × Addr)) (fp : List Addr) : PTs (X.blk s H0 scope (compEnvC scope cl C X.env) fp) ifs (STs X scope ifs) := by
  match ifs with
  | [] => exact pts_nil
  | [c] =>
    refine ⟨fun pins st σ H Q I h => ?_⟩
    exact (pts_one (pt_ST (X := X.blk s H0 scope (compEnvC scope cl C X.env) fp) (e := c))).run pins st σ H Q I (h s H0 C cl fp)
  | _ :: _ :: _ => exact ⟨fun _ _ _ _ _ _ h => False.elim h⟩
def SEb (X : CD) (scope : Scope) (e : Expr) : TE := fun σ H Q => ∀ s H0 C cl fp, SE (X.blk s H0 scope (compEnvC scope cl C X.env) fp) e σ H Q
theorem pe_SEb {e : Expr} (s : Shared) (H0 : Hp) (C : Addr) (cl : List (Str × Addr)) (fp : List Addr) : PE (X.blk s H0 scope (compEnvC scope cl C X.env) fp) e (SEb X scope e) := ⟨fun pins st σ H Q I h => h s H0 C cl fp pins st I⟩
/-- the core: the reading of a comprehension over data -/
theorem lc_read {ifs : List Expr} {F σ H} (hl1 : ifs.length ≤ 1) (en : Env X F σ ρ) (at_ : AtX X F m H) (R : List D → Led → Prop) (QQ : VK) (h : IX X (.Name y py) it ρ m (CompI X scope ifs elt y j ρ R))
    (fin : ∀ Dl acc vs F1 m1 H1 F' m' H', Step X.K F m H F1 m1 H1 → H1 Dl = none → Step X.K F1 m1 H1 F' m' H' → F' Dl = none → Dl ∉ keys m' → H' Dl = some (.lst vs) → Dens X.K F' vs acc → R acc m' → QQ (.ref Dl) H') : tLc (SI X (.Name y py) it) (gName j) (STs X scope ifs) (SEb X scope elt) [j] σ H QQ := by
  refine (h.run F σ H en at_).mono fun J H1 ⟨ds, F1, m1, st, ⟨I, i0, turn, done⟩, w⟩ => fun Dl hDl => ?_
  have hF1 : F1 Dl = none := st.at2.sub.free hDl
  have hk1 : Dl ∉ keys m1 := st.at2.notkey hDl
  refine lc_it w (fun i H' => ∃ acc vs F' m', Step X.K F1 m1 H1 F' m' H' ∧ H' Dl = some (.lst vs) ∧ Dens X.K F' vs acc ∧ I i acc m' ∧ F' Dl = none ∧ Dl ∉ keys m') ⟨[], [], F1, m1, (Step.refl st.at2).poke hDl hF1 hk1, upd_same, .nil, i0, hF1, hk1⟩
    (fun i H' _ ⟨acc, vs, F', m', s', _⟩ => s'.ex.trans s'.at2.sub) (fun i x H' H'' hi ⟨acc, vs, F', m', s', hl, hs, hI, hF', hk'⟩ yy => ?_) (fun H' ⟨acc, vs, F', m', s', hl, hs, hI, hF', hk'⟩ => ?_)
  · obtain ⟨F3, d, hd, s3, q⟩ := yy F' m' s'.ex s'.at2
    obtain ⟨ρ2, hset, turn⟩ := turn i d acc m' hd hI
    obtain ⟨a1, a2, a3⟩ := s3.stay hF' hk' hl
    have en2 := wipe1 (en.mono (st.ex.trans (s'.ex.trans s3.ex))) hset q
    have fin : ∀ {F4 m4 H4 v z}, Step X.K F3 m' H'' F4 m4 H4 → Den X.K F4 v z → acc.length < 100000 ∧ I (i + 1) (acc ++ [z]) m4 → ∃ acc, H4 Dl = some (.lst acc) ∧ acc.length < sizeLine ∧ ∃ acc_1 vs F' m', Step X.K F1 m1 H1 F' m' (upd H4 Dl (.lst (acc ++ [v]))) ∧ upd H4 Dl (.lst (acc ++ [v])) Dl = some (.lst vs) ∧ Dens X.K F' vs acc_1 ∧ I (i + 1) acc_1 m' ∧ F' Dl = none ∧ Dl ∉ keys m' := fun {F4 m4 H4 v z} s4 q4 hh => by
      obtain ⟨b1, b2, b3⟩ := s4.stay a2 a3 a1
      exact ⟨vs, b1, lenLt (by rw [hs.length]; exact hh.1), acc ++ [z], vs ++ [v], F4, m4, ((s'.trans s3).trans s4).poke hDl b2 b3, upd_same, (hs.mono (s3.ex.trans s4.ex)).snoc q4, hh.2, b2, b3⟩
    refine ⟨wipe_back (by simp), ?_⟩
    match ifs, turn with
    | [], turn =>
      unfold STs
      dsimp only
      rw [if_pos rfl]
      intro s H0 C cl fp
      exact EX.go (turn s H0 C cl fp) en2.blk (.quiet s3.at2) fun v z F4 m4 H4 s4 _ q4 hh => fin s4 q4 hh
    | [c], turn =>
      show ∀ s H0 C cl fp, ST (X.blk s H0 scope (compEnvC scope cl C X.env) fp) c _ H'' _
      intro s H0 C cl fp
      refine TX.go (turn s H0 C cl fp) en2.blk (.quiet s3.at2) fun k F4 m4 H4 s4 _ r => ?_
      cases k with
      | true =>
        rw [if_pos rfl]
        intro s' H0' C' cl' fp'
        exact EX.go (r.1 rfl s' H0' C' cl' fp') (en2.mono s4.ex).blk (.quiet s4.at2.toAt) fun v z F5 m5 H5 s5 _ q5 hh => fin (s4.st.trans s5.st) q5 hh
      | false =>
        rw [if_neg Bool.false_ne_true]
        obtain ⟨b1, b2, b3⟩ := Step.stay s4.st a2 a3 a1
        exact ⟨acc, vs, F4, m4, (s'.trans s3).trans s4, b1, hs.mono (s3.ex.trans s4.ex), r.2 rfl, b2, b3⟩
    | _ :: _ :: _, turn => exact absurd hl1 (by simp)
  · exact fin Dl acc vs F1 m1 H1 F' m' H' st hDl s' hF' hk' hl hs (done acc m' (by simpa using hI))
/-- the list as it is made: frozen, or in the ledger -/
theorem lc_frz {R : List D → Led → Prop} {F H F1 H1 F' H' : Hp} {m1 m' : Led} {Dl : Addr} {acc : List D} {vs : List V} (st : Step X.K F m H F1 m1 H1) (hDl : H1 Dl = none) (s' : Step X.K F1 m1 H1 F' m' H') (hF' : F' Dl = none) (hk' : Dl ∉ keys m') (hl : H' Dl = some (.lst vs)) (hs : Dens X.K F' vs acc) :
    ∃ F2, Step X.K F m H F2 m' H' ∧ Den X.K F2 (.ref Dl) (.lst acc) :=
  ⟨_, st.trans (s'.take hDl hF' hk' hl), .lst (.inl upd_same) (hs.mono (Ex.new hF'))⟩
/-- [elt for y in it if ..] -/
theorem x_lc {ifs : List Expr} (hj : SlotAt ρ j y) (h : IX X (.Name y py) it ρ m (CompI X scope ifs elt y j ρ fun acc m' => R (.lst acc) m')) (hl1 : ifs.length ≤ 1 := by decide) (hok : blkC X.N X.env.scope scope [(y, j)] = true := by kernel_rfl)
    (hx : ∀ cl C, Loc (compEnvC scope cl C X.env).scope y := by intro _ _; first | exact Or.inl rfl | exact Or.inr rfl) (hf : ∀ cl C, (scope.names.lookup y == some .cell) = true ∨ (compEnvC scope cl C X.env).scope.names.lookup y = some .local := by intro _ _; first | exact .inl rfl | exact .inr rfl)
    (hc : X.calm = true := by rfl) (hs : ∀ x, foldedSetIterable it X.env x = pure x := by intro _; rfl) : EX X (.ListComp elt [⟨.Name y py, it, ifs, 0⟩] scope pos) ρ m R := .mk fun F σ H en at_ =>
  SE.of (pe_lc (own := [(y, j)]) hc en.nd (pi_SI (it := it)) (blkOk_by hok) (fun s H0 C cl fp => pg_name (X := X.blk s H0 scope (compEnvC scope cl C X.env) fp) (i := j) en.nd (by show X.N[j]? = some y; rw [← en.nm]; exact hj.ix) (hx cl C) (hf cl C)) (fun s H0 C cl fp => pts_STs s H0 C cl fp) (fun s H0 C cl fp => pe_SEb s H0 C cl fp) hs)
    (lc_read hl1 en at_ _ _ h (fun Dl acc vs F1 m1 H1 F' m' H' st hD s' hF hk hl hs r => let ⟨F2, st2, q⟩ := lc_frz (R := fun _ _ => True) st hD s' hF hk hl hs; ⟨_, F2, m', st2, q, r⟩))
/-- x = [..] on one line, x a local -/
theorem s_setLc {ifs : List Expr} {E : EndsD} {x : Str} {i : Nat} {px spos : Pos} (hj : SlotAt ρ j y) (hi : SlotAt ρ i x) (h : IX X (.Name y py) it ρ m (CompI X scope ifs elt y j ρ fun acc m' => ∃ ρ', SetAt ρ i x (.lst acc) ρ' ∧ E.nx ρ' m'))
    (hxl : X.env.scope.names.lookup x = some .local := by rfl) (ha : (scope.names.any fun (n, k) => n == x && (k == .local || k == .cell)) = false := by decide +kernel) (hk : X.env.scope.kind = .function := by rfl) (hln : (px.line == pos.line) = true := by rfl)
    (hl1 : ifs.length ≤ 1 := by decide) (hok : blkC X.N X.env.scope scope [(y, j)] = true := by kernel_rfl)
    (hx : ∀ cl C, Loc (compEnvC scope cl C X.env).scope y := by intro _ _; first | exact Or.inl rfl | exact Or.inr rfl) (hf : ∀ cl C, (scope.names.lookup y == some .cell) = true ∨ (compEnvC scope cl C X.env).scope.names.lookup y = some .local := by intro _ _; first | exact .inl rfl | exact .inr rfl)
    (hc : X.calm = true := by rfl) (hs : ∀ x, foldedSetIterable it X.env x = pure x := by intro _; rfl) : S1 X (.Assign [.Name x px] (.ListComp elt [⟨.Name y py, it, ifs, 0⟩] scope pos) spos) ρ m E := .mk fun F σ H en at_ =>
  SS.of (ps_setLc (i := i) (own := [(y, j)]) hc en.nd (by rw [← en.nm]; exact hi.ix) hxl (sw_true hk hxl hln ha) (pi_SI (it := it)) (blkOk_by hok) (fun s H0 C cl fp => pg_name (X := X.blk s H0 scope (compEnvC scope cl C X.env) fp) (i := j) en.nd (by show X.N[j]? = some y; rw [← en.nm]; exact hj.ix) (hx cl C) (hf cl C)) (fun s H0 C cl fp => pts_STs s H0 C cl fp) (fun s H0 C cl fp => pe_SEb s H0 C cl fp) hs)
    (lc_read hl1 en at_ _ _ h (fun Dl acc vs F1 m1 H1 F' m' H' st hD s' hF hk hl hs ⟨ρ', hset, r⟩ => let ⟨F2, st2, q⟩ := lc_frz (R := fun _ _ => True) st hD s' hF hk hl hs; ⟨ρ', F2, m', st2, (en.mono st2.ex).set hset q, r⟩))
end

/-! ### a def -/
def startR : List Str → List D → Rn
  | [], _ => []
  | x :: N, [] => (x, none) :: startR N []
  | x :: N, d :: ds => (x, some d) :: startR N ds
theorem startR_names : ∀ (N : List Str) (ds : List D), (startR N ds).map (·.1) = N
  | [], _ => rfl
  | x :: N, [] => by simp only [startR, List.map_cons, startR_names N []]
  | x :: N, d :: ds => by simp only [startR, List.map_cons, startR_names N ds]
theorem startR_envs {K : Frag} {F : Hp} : ∀ (N : List Str) (vs : List V) (ds : List D), vs.length ≤ N.length → Dens K F vs ds → Envs K F (start N vs) ((startR N ds).map (·.2))
  | N, _, _, hl, .nil => by
    refine ⟨?_, fun i d h => ?_⟩
    · have e := congrArg List.length (startR_names N [])
      rw [List.length_map] at e
      rw [List.length_map, e]
      unfold L2.start
      simp
    have key : ∀ (N : List Str) (i : Nat), ((startR N []).map (·.2))[i]? = some (some d) → False := by
      intro N
      induction N with
      | nil => intro i h; simp [startR] at h
      | cons x N ih =>
        intro i h
        cases i with
        | zero => simp [startR] at h
        | succ i => exact ih i (by simpa [startR] using h)
    exact (key N i h).elim
  | [], _, _, hl, .cons _ _ => by simp at hl
  | x :: N, v :: vs, d :: ds, hl, .cons q qs => by
    have ih := startR_envs (K := K) (F := F) N vs ds (by simpa using hl) qs
    have es : start (x :: N) (v :: vs) = some v :: start N vs := by
      unfold L2.start
      simp
    rw [es]
    refine ⟨by simp only [startR, List.map_cons, List.length_cons, ih.len], fun i e h => ?_⟩
    cases i with
    | zero =>
      have : e = d := by simp [startR] at h; exact h.symm
      subst this
      exact ⟨v, rfl, q⟩
    | succ i => exact ih.get i e (by simpa [startR] using h)
section
variable {P : Program} {w : World} {K : Frag} {mg : Str → Option Value} {base : Heap}
/-- THE RULE for a def that raises nothing -/
theorem def_ok {x qual : Str} {st : Stmt} {f : Addr} {fd : FuncData} {N ps : List Str} {k : Nat} {sp : SpD} (F : Fun K x qual st f fd) (S : FnScope N ps (defScope st)) (len : ∀ ds m R, sp ds m R → ds.length = ps.length)
    (body : ∀ (cdv : Value) (A : Around) (outer : List PySem.Env) (s : Shared) (H : Hp) (ds : List D) (m : Led) (R : D → Led → Prop), Room k (A.deeper (envOfC qual (defScope st) s.heap.objs.size f cdv)) → sp ds m R →
      SX ⟨(cxOf CX0 P w K mg base N qual (defScope st) f cdv A outer s H E0).nox, fun _ _ _ _ => False⟩ (defBody st) (startR N ds) m { nx := fun _ m2 => ∃ m3, m3.Sublist m2 ∧ R .non m3, rt := fun d m2 => ∃ m3, m3.Sublist m2 ∧ R d m3 }) : FnOk P w K mg base CX0 (k + 1) f fd ps (lift K sp) := by
  refine F.ok S (fun vs H Q E ⟨F0, m, ds, R, q, _, h, _⟩ => by rw [q.length]; exact len ds m R h) (fun cdv A outer s H vs Q E hr ⟨F0, m, ds, R, q, at_, h, k⟩ => ?_)
  refine ⟨_, pss_SS, ?_⟩
  have hb := body cdv A outer s H ds m R hr h
  have hl : vs.length ≤ N.length := by
    rw [q.length, len ds m R h]
    have := congrArg List.length S.pre
    rw [List.length_take] at this
    omega
  have en : DL.Env (cxOf CX0 P w K mg base N qual (defScope st) f cdv A outer s H E).nox F0 (start N vs) (startR N ds) := ⟨S.nd, startR_names N ds, startR_envs N vs ds hl q⟩
  refine (hb.run F0 (start N vs) H en (.quiet at_)).mono (fun σ2 H2 ⟨ρ2, F2, m2, s2, en2, m3, sl, r⟩ => ?_) (fun v H2 ⟨d, F2, m2, s2, q2, m3, sl, r⟩ => ?_) (fun _ _ ⟨_, _, _, _, _, z⟩ => z) (fun _ _ ⟨_, _, _, _, _, z⟩ => z)
  · exact k .non m3 .non F2 H2 r (s2.trans (Step.drop s2.at2 sl)) .non
  · exact k d m3 v F2 H2 r (s2.trans (Step.drop s2.at2 sl)) q2
end
end DL


namespace DL
open PySem PySem.Spec PyProof.Rows L2 RZ
section
variable {X : CD} {a b e tg it : Expr} {es : List Expr} {ρ : Rn} {m : Led} {R : D → Led → Prop} {x : Str} {p pos tpos : Pos} {k n : Nat} {sp : SpD} {mg : Str → Option Value}
/-- built-ins by name: hm is found by its name -/
theorem c_cb {id : String} (hm : mg x = none) (hv : bootBuiltins x = some (.builtin id)) (h : AX X (e :: es) ρ m fun ds m1 => BX X (.builtin id) ds m1 R) (hX : X.mg = mg := by rfl) (hg : Gl X x := by rfl) (hn : x ≠ "__name__" := by decide) (hdb : (x == ("__debug__" : Str)) = false := by decide)
    (he : starEach (e :: es) X.env = (false, eval e X.env) :: starEach es X.env := by rfl) (hpl : (backTo pos (starEach es X.env)).any (·.1) = false := by rfl) : EX X (.Call (.Name x p) (e :: es) [] pos) ρ m R := by
  subst hX
  exact x_cb h hm hv hg hn hdb he hpl
theorem c_ct {T : String} (hm : mg x = none) (hv : bootBuiltins x = some (.type T)) (h : AX X (e :: es) ρ m fun ds m1 => BX X (.type T) ds m1 R) (hX : X.mg = mg := by rfl) (hg : Gl X x := by rfl) (hn : x ≠ "__name__" := by decide) (hdb : (x == ("__debug__" : Str)) = false := by decide)
    (he : starEach (e :: es) X.env = (false, eval e X.env) :: starEach es X.env := by rfl) (hpl : (backTo pos (starEach es X.env)).any (·.1) = false := by rfl) : EX X (.Call (.Name x p) (e :: es) [] pos) ρ m R := by
  subst hX
  exact x_ct h hm hv hg hn hdb he hpl
theorem c_glob {K : Frag} {d : D} (hgc : GC K mg x d) (kk : R d m) (hX : X.mg = mg ∧ X.K = K := by exact ⟨rfl, rfl⟩) (h : Gl X x := by rfl) (hd : (x == ("__debug__" : Str)) = false := by decide) : EX X (.Name x pos) ρ m R := by
  obtain ⟨rfl, rfl⟩ := hX
  exact x_glob hgc kk h hd
theorem bt_int : bootBuiltins "int" = some (.type "int") := by decide +kernel
theorem bt_list : bootBuiltins "list" = some (.type "list") := by decide +kernel
theorem bt_str : bootBuiltins "str" = some (.type "str") := by decide +kernel
theorem bt_len : bootBuiltins "len" = some (.builtin "len") := by decide +kernel
theorem bt_max : bootBuiltins "max" = some (.builtin "max") := by decide +kernel
theorem bt_abs : bootBuiltins "abs" = some (.builtin "abs") := by decide +kernel
theorem bt_all : bootBuiltins "all" = some (.builtin "all") := by decide +kernel
end
section
variable {X : CD} {a b e tg it : Expr} {ρ : Rn} {m : Led} {R : List D → Led → Prop} {p pos tpos : Pos} {mg : Str → Option Value}
theorem j_range1 (hm : mg "range" = none) (h : EX X a ρ m fun d m1 => ∃ j : Int, d = .int j ∧ -100000 ≤ j ∧ j ≤ 100000 ∧ R (rangeD 0 j.toNat) m1) (hX : X.mg = mg := by rfl) (hg : Gl X "range" := by rfl) (hs : starEach [a] X.env = [(false, eval a X.env)] := by rfl) : IX X tg (.Call (.Name "range" p) [a] [] pos) ρ m R := by
  subst hX
  exact ix_range1 h hm hg hs
end
/-! lists and tuples alike -/
def Seq (d : D) (ds : List D) : Prop := d = .lst ds ∨ d = .tup ds
def iSeq (X : CD) (it : Expr) : TI := fun σ H R => SE X it σ H fun x H1 => ∃ a, x = .ref a ∧ (((∃ xs, SqL X.K H1 a xs) ∧ R (Itl X.K a) H1) ∨ ((∃ xs, SqT X.K H1 a xs) ∧ R (Itt X.K a) H1))
/-! isinstance, by kinds -/
section
variable {X : CD} {m : Led} {R : D → Led → Prop}
end
/-! a statement, then the rest from a word between them -/
theorem S1.mono {X : CD} {st : Stmt} {ρ : Rn} {m : Led} {E E' : EndsD} (h : S1 X st ρ m E) (h1 : ∀ ρ m, E.nx ρ m → E'.nx ρ m) (h2 : ∀ d m, E.rt d m → E'.rt d m) (h3 : ∀ ρ m, E.bk ρ m → E'.bk ρ m) (h4 : ∀ ρ m, E.ct ρ m → E'.ct ρ m) : S1 X st ρ m E' := .mk fun F σ H en a =>
  (h.run F σ H en a).mono (fun σ H ⟨ρ, F2, m2, s, e, r⟩ => ⟨ρ, F2, m2, s, e, h1 _ _ r⟩) (fun v H ⟨d, F2, m2, s, e, r⟩ => ⟨d, F2, m2, s, e, h2 _ _ r⟩) (fun σ H ⟨ρ, F2, m2, s, e, r⟩ => ⟨ρ, F2, m2, s, e, h3 _ _ r⟩) (fun σ H ⟨ρ, F2, m2, s, e, r⟩ => ⟨ρ, F2, m2, s, e, h4 _ _ r⟩)
theorem Knows.mono {P : Program} {w : World} {K : Frag} {mg : Str → Option Value} {base : Heap} {j k n : Nat} {x : Str} {sp : SpD} (h : Knows P w K mg base j x n sp) (hk : j ≤ k) : Knows P w K mg base k x n sp := by
  obtain ⟨f, fd, ps, a, b, c, d, e⟩ := h.fn
  exact ⟨f, fd, ps, a.mono hk, b, c, d, e⟩
/-- the law's call -/
theorem law_start {K : Frag} {sp : SpD} {H : Hp} {a : Addr} {ns : List Int} {E : XK} (hS : SqL K H a (ns.map V.int)) (h : ∀ R : D → Led → Prop, (∀ m', R (.bl true) m') → sp [.lsk (ns.map D.int)] [] R) : lift K sp [.ref a] H (fun v _ => v = .bl true) E :=
  ⟨H, [], [.lsk (ns.map D.int)], fun d _ => d = .bl true, .cons (.lsk hS Dens.of_ints) .nil, ⟨Ex.refl _, fun _ h => (nomatch h), fun _ h => (nomatch h), List.nodup_nil⟩, h _ fun _ => rfl, fun d m2 v F2 H2 e _ q => by subst e; exact q.bl_inv⟩
end DL


namespace DL
open PySem PySem.Spec PySem.Calls PyProof.Rows L2 PySem.W

/-! ### an own exception class over ValueError whose __init__ begins with super().__init__(text) -/
/-- what the written part says of the class and of its __init__ -/
structure XIn (P : Program) (K : Frag) (mg : Str → Option Value) (C fI cc cda : Addr) (q : Str) (fd : FuncData) : Prop where
  T : OexC K C
  iC : findIn K (.ref C) "__init__" = some (some (.ref fI))
  tI : typeIn K (.ref fI) = some (.type "function")
  lf : ∃ oc od osl, K.lookup fI = some ⟨oc, od, .func fd, osl⟩
  lc : codeIn K (.ref cda) q = true
  fq : fd.qualname = q
  fc : fd.code = .ref cda
  fl : fd.closure = [(("__class__" : Str), cc)]
  fg : fd.globals = mainGlobals
  fb : fd.builtins = builtinsNs
  hcode : ∃ ccl cdd vs ccs file tf, K.lookup cda = some ⟨ccl, cdd, .fields vs, ccs⟩ ∧ vs[2]? = some (.str file tf) ∧ ((P.main.file : Str) == file) = true
  hcell : ∃ cl cld csl, K.lookup cc = some ⟨cl, cld, .cell (some (.ref C)), csl⟩
  sup : ks_superIn K C C "__init__" = some (some (.builtin "ValueError.__init__"))
  sub : mroIn K C (.ref C) = some true
  sVE : subIn K (.ref C) (.type "ValueError") = some true
  opq : nsIn K cStatics "thirdparty.any" = some none
  exi : excInitIn K C [.type "ValueError", .type "Exception", .type "BaseException", .type "object"] "ValueError.__new__" = true
  mgs : mg "super" = none
  top : (P.main.scope.names.lookup ("super" : Str)).isSome = false

section
variable {P : Program} {w : World} {K : Frag} {mg : Str → Option Value} {C fI cc cda : Addr} {q : Str} {fd : FuncData} {A : Around} {E : Value → Shared → Prop}
theorem call_mw {s : Shared} {u e t0 : Addr} {rest : List Value} {Q : Value → Shared → Prop} (Z : XIn P K mg C fI cc cda q fd) (X : K.In s.heap) (hu : s.heap.get? u = some (kxs_mw "ValueError.__init__" e)) (he : s.heap.get? e = some (HandSPX.excO C t0)) (hz : rest.length ≤ sizeLine)
    (h : ∀ h' t1, (∀ b o, b ≠ e → s.heap.get? b = some o → h'.get? b = some o) → h'.get? e = some (HandSPX.excO C t1) → Q .none { s with heap := h' }) : wpAny (model P w) A (call (.ref u) rest) Q E s := by
  obtain ⟨nm, N', qn, bs, bm, hdct, sn, sub, ab, col, dd, k0, k1, k2, k3, k5, hC, hT⟩ := excInit_of X Z.exi
  obtain ⟨hh, g, d, tk, os⟩ := s
  refine wpAny_call (codeAny_of_tree ?_)
  show wpAny _ A.in1 (callAny (.ref u) ⟨rest, []⟩) _ _ _
  simp only [callAny]
  refine wpAny_bind (wpAny_load hu ?_)
  simp only [kxs_mw, show (Value.type "method-wrapper" == Value.type "method" || Value.type "method-wrapper" == Value.type "builtin_function_or_method" || Value.type "method-wrapper" == Value.type "method-wrapper") = true by decide, if_true]
  refine KFB.if_so (by decide) ?_
  refine wpAny_bind (check_bound_init F.excBase_ValueError.toExcCallFacts hC he rfl ?_)
  refine wpAny_bind (wpAny_pure (wpAny_pure ?_))
  refine ⟨plainId_quiet F.excBase_ValueError.init.plain _, codeAny_builtin F.excBase_ValueError.initEntry ?_⟩
  exact exc_init_tree (cls := .ref C) (t0 := t0) (dv := none) (c2 := .none) (c3 := .none) (b4 := .bool false) he hz fun h' k e' t' => h h' _ k e'

/-- the statement super().__init__(text) -/
theorem super_stmt {s : Shared} {body : List Stmt} {L e t0 : Addr} {m mb : Str → Option Value} {ar : Arg} {msg : Str} {j : Nat} {p0 p1 p2 p3 p4 p5 : Pos} {Q : Flow → Shared → Prop} {pl : Sem Bool} (Z : XIn P K mg C fI cc cda q fd) (X : K.In s.heap)
    (glob : s.heap.Ns mainGlobals mg) (blt : s.heap.Ns builtinsNs mb) (hmb : mb "super" = bootBuiltins "super")
    (hks : fd.scope.names.lookup ("super" : Str) = some .globalImplicit) (hkc : fd.scope.names.lookup ("__class__" : Str) = some .free) (hka : fd.scope.names.lookup ar.arg = some .local) (hk : fd.scope.kind = .function)
    (hp : (fd.params.posonlyargs ++ fd.params.args).head? = some ar) (ns : s.heap.Ns L m) (hv : m ar.arg = some (.ref e)) (he : s.heap.get? e = some (HandSPX.excO C t0))
    (hev : eval (.Call (.Attribute (.Call (.Name "super" p0) [] [] p1) "__init__" p2) [.Constant (.str msg) j p3] [] p4) (callEnv fd L fI) = (do
      let ov ← attributeBase (.Call (.Name "super" p0) [] [] p1) "__init__" (callEnv fd L fI) (eval (.Call (.Name "super" p0) [] [] p1) (callEnv fd L fI))
      standAt p2.atName
      let (f, first) ← holding [ov] (getMethod ov "__init__" pl)
      callWith p4 f first (backTo p4 (starEach [.Constant (.str msg) j p3] (callEnv fd L fI))) []))
    (h : ∀ h' t1 tk, (∀ b o, b ≠ e → s.heap.get? b = some o → h'.get? b = some o) → h'.get? e = some (HandSPX.excO C t1) → Q .next { s with heap := h', toks := tk }) :
    _root_.PySem.wpAt (model P w) A (.func body (callEnv fd L fI)) (exec (.Expr (.Call (.Attribute (.Call (.Name "super" p0) [] [] p1) "__init__" p2) [.Constant (.str msg) j p3] [] p4) p5) (callEnv fd L fI)) Q E s := by
  obtain ⟨oc, od, osl, lf⟩ := Z.lf
  obtain ⟨ccl, cdd, vs, ccs, file, tf, lco, hvs, hfile⟩ := Z.hcode
  obtain ⟨cl, cld, csl, lce⟩ := Z.hcell
  have hc0 : ∃ cd, clsIn K C = some cd := by
    cases z : clsIn K C with
    | some cd => exact ⟨cd, rfl⟩
    | none => have := Z.sup; unfold ks_superIn at this; rw [z] at this; cases this
  obtain ⟨cd, hcd⟩ := hc0
  obtain ⟨oD, hD1, hD2⟩ : ∃ oD, s.heap.get? C = some oD ∧ oD.data = .cls cd := by
    have hcd' := hcd
    unfold clsIn at hcd'
    split at hcd'
    · rename_i c d cd' sl ho
      cases hcd'
      exact ⟨_, X _ _ ho, rfl⟩
    · cases hcd'
  have hsup := Z.sup
  unfold ks_superIn at hsup
  rw [hcd, Option.bind_some] at hsup
  have neC : e ≠ C := fun z => by
    rw [z, hD1] at he
    cases he
    cases hD2
  refine ks_wpAt_Expr_any (hi := by show (fd.scope.kind == .module && _) = false; rw [hk]; rfl) ?_
  refine ks_wpAt_MethodCall (he := hev) ?_
  refine ks_wpAt_super_base (env := callEnv fd L fI) hks hkc (by decide) rfl (X _ _ lf) rfl hp Z.fc (X _ _ lco) rfl hvs hfile Z.top ?_
  have hgl : (callEnv fd L fI).globals = mainGlobals := Z.fg
  have hbu : (callEnv fd L fI).builtins = builtinsNs := Z.fb
  refine ks_loadName_global hk hks (loadGlobal_builtin (env := callEnv fd L fI) (by rw [hgl]; exact glob) Z.mgs (by rw [hbu]; exact blt) (hmb.trans (show bootBuiltins "super" = some (.type "super") by decide +kernel)) ⟨rfl, ?_⟩)
  refine wpAny_loadName_free hk hkc (show (callEnv fd L fI).cells.lookup ("__class__" : Str) = some cc by (show List.lookup _ fd.closure = _; rw [Z.fl]; rfl)) ⟨_, X _ _ lce, rfl⟩ ?_
  refine wpAny_loadName_local hk hka ns hv ?_
  refine ks_wpAny_isType_cls hD1 hD2 ⟨rfl, ?_⟩
  obtain ⟨hh, g, d, tk, os⟩ := s
  refine ks_wpAny_call_super hD1 hD2 he rfl (fun c z => by cases z) (looks_mroIn X Z.sub) (fun h1 e1 k1 => ?_)
  have X1 : K.In h1 := X.keeps k1
  have he1 : h1.get? e = some (HandSPX.excO C t0) := k1 _ _ he
  have LI : Looks (model P w) h1 (isInstance (.ref e) (.type "ValueError")) true := by
    have I : InstAt h1 e (HandSPX.excO C t0) C none := ⟨he1, rfl, rfl, trivial⟩
    exact I.type.andThen (looks_subIn X1 Z.sVE)
  refine kxs_getMethod kxs_ValueError e1 (looks_opaque X1 Z.opq) (l₀ := cd.mro) (fun A Q E s k q => wpAny_bind ((looks_clsIn X1 hcd) A _ E s k (wpAny_pure q))) rfl X1 hsup LI neC (by decide) ?_
  have hm : (h1.push (kxs_mw "ValueError.__init__" e)).get? h1.objs.size = some (kxs_mw "ValueError.__init__" e) := Heap.get?_push_at rfl rfl
  have k2 : ∀ b o, h1.get? b = some o → (h1.push (kxs_mw "ValueError.__init__" e)).get? b = some o := fun b o z => Heap.get?_push_of_some _ z
  refine kxs_callWith (i := "ValueError.__init__") (x := e) rfl (evalArgs_plain ?_)
  refine spliced_more (wpAny_Constant_str (spliced_none ?_)) rfl
  refine ⟨hm, ?_⟩
  show wpAny _ _ (call (.ref h1.objs.size) _) _ _ _
  refine call_mw (s := ⟨h1.push (kxs_mw "ValueError.__init__" e), g, d, _, os⟩) Z (X1.keeps k2) hm (k2 _ _ he1) (by show 1 ≤ sizeLine; rw [sizeLine_eq]; omega) fun h' t1 k3 e3 => ?_
  exact h h' t1 _ (fun b o hb z => k3 b o hb (k2 _ _ (k1 _ _ z))) e3

/-- the scope of such an __init__ -/
structure XSc (fd : FuncData) (sf : Str) : Prop where
  ks : fd.scope.names.lookup ("super" : Str) = some .globalImplicit
  kc : fd.scope.names.lookup ("__class__" : Str) = some .free
  ka : fd.scope.names.lookup sf = some .local
  kk : fd.scope.kind = .function
  hp : ∃ ar : Arg, (fd.params.posonlyargs ++ fd.params.args).head? = some ar ∧ ar.arg = sf
  cell : ∀ x ∈ fd.scope.names, x.2 ≠ .cell
  co : fd.scope.isCoroutine = false
  gen : fd.scope.isGenerator = false
def supCall (msg : Str) (j : Nat) (p0 p1 p2 p3 p4 : Pos) : Expr := .Call (.Attribute (.Call (.Name "super" p0) [] [] p1) "__init__" p2) [.Constant (.str msg) j p3] [] p4
/-- how the call is read -/
def SupEv (fd : FuncData) (fI : Addr) (msg : Str) (j : Nat) (p0 p1 p2 p3 p4 : Pos) : Prop := ∃ pl : Sem Bool, ∀ L, eval (.Call (.Attribute (.Call (.Name "super" p0) [] [] p1) "__init__" p2) [.Constant (.str msg) j p3] [] p4) (callEnv fd L fI) = (do
      let ov ← attributeBase (.Call (.Name "super" p0) [] [] p1) "__init__" (callEnv fd L fI) (eval (.Call (.Name "super" p0) [] [] p1) (callEnv fd L fI))
      standAt p2.atName
      let (f, first) ← holding [ov] (getMethod ov "__init__" pl)
      callWith p4 f first (backTo p4 (starEach [.Constant (.str msg) j p3] (callEnv fd L fI))) [])
theorem ns_keep {h h' : Heap} {L e : Addr} {m : Str → Option Value} (ns : h.Ns L m) (ne : L ≠ e) (k : ∀ b o, b ≠ e → h.get? b = some o → h'.get? b = some o) : h'.Ns L m := by
  obtain ⟨o, es, ep, e1, r⟩ := ns
  exact ⟨o, es, ep, k _ _ ne e1, r⟩
theorem init_call0 {s : Shared} {R : Result → Shared → Prop} {e t0 : Addr} {mb : Str → Option Value} {sf msg : Str} {j : Nat} {p0 p1 p2 p3 p4 p5 : Pos} (Z : XIn P K mg C fI cc cda q fd) (X : K.In s.heap) (lim : s.heap.NoLimit)
    (glob : s.heap.Ns mainGlobals mg) (blt : s.heap.Ns builtinsNs mb) (hmb : mb "super" = bootBuiltins "super") (room : A.depth < recursionLimit) (S : XSc fd sf)
    (hev : SupEv fd fI msg j p0 p1 p2 p3 p4) (hbody : fd.body = .stmts [.Expr (.Call (.Attribute (.Call (.Name "super" p0) [] [] p1) "__init__" p2) [.Constant (.str msg) j p3] [] p4) p5])
    (hbind : BindsTo s fd ⟨[.ref e], []⟩ [(sf, .ref e)]) (he : s.heap.get? e = some (HandSPX.excO C t0))
    (h : ∀ h' t1 tk, (∀ b o, b ≠ e → s.heap.get? b = some o → h'.get? b = some o) → h'.get? e = some (HandSPX.excO C t1) → R (.ok (.ret .none)) { s with heap := h', toks := tk }) :
    codeAny (model P w) A (.call (.ref fI) ⟨[.ref e], []⟩) R s := by
  obtain ⟨oc, od, osl, lf⟩ := Z.lf
  obtain ⟨pl, hev⟩ := hev
  obtain ⟨ar, hp, har⟩ := S.hp
  have hcd : s.heap.CodeRec fd.code fd.qualname := by rw [Z.fc, Z.fq]; exact codeRec_of X Z.lc
  refine ks_codeAny_call_defAt (fd := fd) room (X _ _ lf) rfl lim hcd hbody hbind S.cell (fun x hx => by rw [List.mem_singleton.mp hx]; exact S.ka) (fun h0 ns k0 => ?_) S.co S.gen S.kk
  have he0 := k0 _ _ he
  refine ks_wpAt_execs_cons ?_
  refine super_stmt (s := { s with heap := h0, toks := s.toks + 1 }) (ar := ar) (e := e) (pl := pl) Z (X.keeps k0) (glob.keeps k0) (blt.keeps k0) hmb S.ks S.kc (by rw [har]; exact S.ka) S.kk hp ns (by rw [har]; simp) he0 (hev _) fun h' t1 tk k e1 => ?_
  exact wpAt_of_wpAny (wpAny_execs_nil (h h' t1 tk (fun b o hb z => k b o hb (k0 _ _ z)) e1))
theorem init_call1 {s : Shared} {R : Result → Shared → Prop} {e t0 : Addr} {u : Value} {mb : Str → Option Value} {sf par f msg : Str} {j : Nat} {p0 p1 p2 p3 p4 p5 q1 q2 q3 q4 : Pos} (Z : XIn P K mg C fI cc cda q fd) (X : K.In s.heap) (lim : s.heap.NoLimit)
    (glob : s.heap.Ns mainGlobals mg) (blt : s.heap.Ns builtinsNs mb) (hmb : mb "super" = bootBuiltins "super") (room : A.depth < recursionLimit) (S : XSc fd sf)
    (hev : SupEv fd fI msg j p0 p1 p2 p3 p4) (hpar : fd.scope.names.lookup par = some .local) (hne : par ≠ sf) (hno : findIn K (.ref C) f = some none) (hd1 : (sf == ("__debug__" : Str)) = false) (hd2 : (par == ("__debug__" : Str)) = false)
    (hsw : ∀ L, swapsWith (.Name par q4) (some (.Attribute (.Name sf q1) f q2)) q3.line (callEnv fd L fI) = pure false)
    (hbody : fd.body = .stmts [.Expr (.Call (.Attribute (.Call (.Name "super" p0) [] [] p1) "__init__" p2) [.Constant (.str msg) j p3] [] p4) p5, .Assign [.Attribute (.Name sf q1) f q2] (.Name par q4) q3])
    (heK : ∀ o, K.lookup e ≠ some o) (hbind : BindsTo s fd ⟨[.ref e, u], []⟩ [(sf, .ref e), (par, u)]) (he : s.heap.get? e = some (HandSPX.excO C t0))
    (h : ∀ h' t1 tk dx, (∀ b o, b ≠ e → s.heap.get? b = some o → h'.get? b = some o) → s.heap.objs.size ≤ dx → dx ≠ e → h'.get? e = some { cls := .ref C, dict := some dx, data := .fields #[.ref t1, .none, .none, .none, .bool false, .none] } → h'.Ns1 dx (fun y => if y = f then some u else none) → R (.ok (.ret .none)) { s with heap := h', toks := tk }) :
    codeAny (model P w) A (.call (.ref fI) ⟨[.ref e, u], []⟩) R s := by
  obtain ⟨oc, od, osl, lf⟩ := Z.lf
  obtain ⟨pl, hev⟩ := hev
  obtain ⟨ar, hp, har⟩ := S.hp
  obtain ⟨nm, qq, N, bs, bm, sn, sub, ab, col, dd, k0', k1, k2, k3, k5, hC, hbm⟩ := Z.T.cls
  have hcl : PySem.W.clsIn K C = some { name := nm, bases := bs, mro := .ref C :: bm, ns := N, qualname := qq, hasDict := true, slotNames := sn, subclasses := sub, abstract := ab, collection := col, hasDel := false } := by unfold PySem.W.clsIn; rw [hC] <;> rfl
  have hcd : s.heap.CodeRec fd.code fd.qualname := by rw [Z.fc, Z.fq]; exact codeRec_of X Z.lc
  refine ks_codeAny_call_defAt (fd := fd) room (X _ _ lf) rfl lim hcd hbody hbind S.cell (fun x hx => by
    rcases List.mem_cons.mp hx with z | z
    · rw [z]; exact S.ka
    · rw [List.mem_singleton.mp z]; exact hpar) (fun h0 ns k0 => ?_) S.co S.gen S.kk
  have he0 := k0 _ _ he
  have lkS : List.lookup sf [(par, u), (sf, Value.ref e)] = some (.ref e) := by
    rw [List.lookup_cons, show (sf == par) = false from beq_false_of_ne (Ne.symm hne)]; simp
  have lkP : List.lookup par [(par, u), (sf, Value.ref e)] = some u := by simp
  refine ks_wpAt_execs_cons ?_
  refine super_stmt (s := { s with heap := h0, toks := s.toks + 2 }) (ar := ar) (e := e) (pl := pl) Z (X.keeps k0) (glob.keeps k0) (blt.keeps k0) hmb S.ks S.kc (by rw [har]; exact S.ka) S.kk hp ns (by rw [har]; exact lkS) he0 (hev _) fun h' t1 tk k e1 => ?_
  have neL : s.heap.objs.size ≠ e := Nat.ne_of_gt (Heap.lt_size he)
  have ns' : h'.Ns s.heap.objs.size (fun x => [(par, u), (sf, Value.ref e)].lookup x) := ns_keep ns neL k
  refine ks_wpAt_execs_cons (ks_wpAt_Assign_Attr (wpAt_of_wpAny ?_) (hsw _))
  refine ldc S.kk hpar ns' lkP ?_ hd2
  refine ldc S.kk S.ka ns' lkS ?_ hd1
  have X' : K.In h' := fun b o z => k b o (fun y => heK o (y ▸ z)) (k0 _ _ (X b o z))
  refine PySem.W.set_plain X' (ox := { cls := .ref C, dict := none, data := .fields #[.ref t1, .none, .none, .none, .bool false, .none] }) (od := none) ⟨e1, rfl, rfl, trivial⟩ Z.T.sa ?_
  refine PySem.HandSPX.exc_osa X' e1 hcl (show PySem.HandSPX.refsVE (.ref C :: bm) = true from hbm) rfl hno (fun h2 tk' dx kk dn dne hx hn => ?_)
  refine wpAt_of_wpAny (wpAny_execs_nil (h h2 t1 tk' dx (fun b o hb z => kk b o hb (k b o hb (k0 _ _ z))) ?_ dne hx hn))
  obtain ⟨oL, es, ep, hL, _⟩ := ns'
  exact Nat.le_trans (Nat.le_of_lt (Heap.lt_size hL)) dn

/-- a class of exceptions as the data layer knows it: its text, the field (if it has one) -/
structure XK0 (P : Program) (w : World) (K : Frag) (mg : Str → Option Value) (nm : Str) (C : Addr) : Prop where
  mgC : mg nm = some (.ref C)
  T : OexC K C
  run : ∀ (A : Around) (s : Shared) (Q : Value → Shared → Prop) (E : Value → Shared → Prop) (mb : Str → Option Value), K.In s.heap → (∀ o, s.heap.objs.size ≤ s.heap.objs.size + 1 → K.lookup (s.heap.objs.size + 1) ≠ some o) → s.heap.NoLimit → s.heap.Ns mainGlobals mg → s.heap.Ns builtinsNs mb → mb "super" = bootBuiltins "super" → Room 1 A →
    (∀ h' t1 tk, (∀ b o, s.heap.get? b = some o → h'.get? b = some o) → h'.get? (s.heap.objs.size + 1) = some (HandSPX.excO C t1) → Q (.ref (s.heap.objs.size + 1)) { s with heap := h', toks := tk }) →
    wpAny (model P w) A (call (.ref C) []) Q E s
structure XK1 (P : Program) (w : World) (K : Frag) (mg : Str → Option Value) (nm f : Str) (C : Addr) : Prop where
  mgC : mg nm = some (.ref C)
  T : OexC K C
  run : ∀ (A : Around) (s : Shared) (u : Value) (Q : Value → Shared → Prop) (E : Value → Shared → Prop) (mb : Str → Option Value), K.In s.heap → (∀ o, s.heap.objs.size ≤ s.heap.objs.size + 1 → K.lookup (s.heap.objs.size + 1) ≠ some o) → s.heap.NoLimit → s.heap.Ns mainGlobals mg → s.heap.Ns builtinsNs mb → mb "super" = bootBuiltins "super" → Room 1 A →
    (∀ h' t1 tk dx, (∀ b o, s.heap.get? b = some o → h'.get? b = some o) → s.heap.objs.size ≤ dx → dx ≠ s.heap.objs.size + 1 → h'.get? (s.heap.objs.size + 1) = some { cls := .ref C, dict := some dx, data := .fields #[.ref t1, .none, .none, .none, .bool false, .none] } → h'.Ns1 dx (fun y => if y = f then some u else none) → Q (.ref (s.heap.objs.size + 1)) { s with heap := h', toks := tk }) →
    wpAny (model P w) A (call (.ref C) [u]) Q E s
theorem xk0_mk {nm sf msg : Str} {j : Nat} {p0 p1 p2 p3 p4 p5 : Pos} (mgC : mg nm = some (.ref C)) (Z : XIn P K mg C fI cc cda q fd) (S : XSc fd sf) (hev : SupEv fd fI msg j p0 p1 p2 p3 p4)
    (hbody : fd.body = .stmts [.Expr (.Call (.Attribute (.Call (.Name "super" p0) [] [] p1) "__init__" p2) [.Constant (.str msg) j p3] [] p4) p5]) (hbind : ∀ s e, BindsTo s fd ⟨[e], []⟩ [(sf, e)]) : XK0 P w K mg nm C := by
  refine ⟨mgC, Z.T, fun A s Q E mb X hK lim glob blt hmb room hq => ?_⟩
  obtain ⟨nm', qq, N, bs, bm, sn, sub, ab, col, dd, k0', k1, k2, k3, k5, hC, hbm⟩ := Z.T.cls
  obtain ⟨hp, g, d, tk, os⟩ := s
  have kk : ∀ b o, hp.get? b = some o → ((hp.push (PySem.W.kdv_tup [])).push (PySem.HandSPX.excO C hp.objs.size)).get? b = some o := fun b o e => Heap.get?_push_of_some _ (Heap.get?_push_of_some _ e)
  have hget : ((hp.push (PySem.W.kdv_tup [])).push (PySem.HandSPX.excO C hp.objs.size)).get? (hp.objs.size + 1) = some (PySem.HandSPX.excO C hp.objs.size) := by heap_get
  refine wpAny_call (PySem.HandSPX.call_own F.excBase_ValueError (fun Y => PySem.HandSPX.refsVE_contains Y bm hbm) (X _ _ hC) (PySem.W.looks_findIn X Z.iC) (fun self => PySem.W.bind_fn X self Z.tI) (Nat.zero_le _) ?_)
  refine init_call0 (s := ⟨(hp.push (PySem.W.kdv_tup [])).push (PySem.HandSPX.excO C hp.objs.size), g, d, tk, os⟩) Z (X.keeps kk) (lim.keeps kk) (glob.keeps kk) (blt.keeps kk) hmb (room.make C [] []).depth S hev hbody (hbind _ _) hget fun h' t1 tk' k e1 => ?_
  refine ⟨rfl, hq h' t1 tk' (fun b o z => k b o (fun y => ?_) (kk b o z)) e1⟩
  have := Heap.lt_size z
  rw [y] at this
  exact absurd this (show ¬ hp.objs.size + 1 < hp.objs.size by omega)
theorem xk1_mk {nm sf par f msg : Str} {j : Nat} {p0 p1 p2 p3 p4 p5 q1 q2 q3 q4 : Pos} (mgC : mg nm = some (.ref C)) (Z : XIn P K mg C fI cc cda q fd) (S : XSc fd sf) (hev : SupEv fd fI msg j p0 p1 p2 p3 p4)
    (hpar : fd.scope.names.lookup par = some .local) (hne : par ≠ sf) (hno : findIn K (.ref C) f = some none) (hd1 : (sf == ("__debug__" : Str)) = false) (hd2 : (par == ("__debug__" : Str)) = false)
    (hsw : ∀ L, swapsWith (.Name par q4) (some (.Attribute (.Name sf q1) f q2)) q3.line (callEnv fd L fI) = pure false)
    (hbody : fd.body = .stmts [.Expr (.Call (.Attribute (.Call (.Name "super" p0) [] [] p1) "__init__" p2) [.Constant (.str msg) j p3] [] p4) p5, .Assign [.Attribute (.Name sf q1) f q2] (.Name par q4) q3])
    (hbind : ∀ s e u, BindsTo s fd ⟨[e, u], []⟩ [(sf, e), (par, u)]) : XK1 P w K mg nm f C := by
  refine ⟨mgC, Z.T, fun A s u Q E mb X hK lim glob blt hmb room hq => ?_⟩
  obtain ⟨nm', qq, N, bs, bm, sn, sub, ab, col, dd, k0', k1, k2, k3, k5, hC, hbm⟩ := Z.T.cls
  obtain ⟨hp, g, d, tk, os⟩ := s
  have kk : ∀ b o, hp.get? b = some o → ((hp.push (PySem.W.kdv_tup [u])).push (PySem.HandSPX.excO C hp.objs.size)).get? b = some o := fun b o e => Heap.get?_push_of_some _ (Heap.get?_push_of_some _ e)
  have hget : ((hp.push (PySem.W.kdv_tup [u])).push (PySem.HandSPX.excO C hp.objs.size)).get? (hp.objs.size + 1) = some (PySem.HandSPX.excO C hp.objs.size) := by heap_get
  refine wpAny_call (PySem.HandSPX.call_own F.excBase_ValueError (fun Y => PySem.HandSPX.refsVE_contains Y bm hbm) (X _ _ hC) (PySem.W.looks_findIn X Z.iC) (fun self => PySem.W.bind_fn X self Z.tI) (by show 1 ≤ sizeLine; rw [sizeLine_eq]; omega) ?_)
  refine init_call1 (s := ⟨(hp.push (PySem.W.kdv_tup [u])).push (PySem.HandSPX.excO C hp.objs.size), g, d, tk, os⟩) Z (X.keeps kk) (lim.keeps kk) (glob.keeps kk) (blt.keeps kk) hmb (room.make C [u] []).depth S hev hpar hne hno hd1 hd2 hsw hbody (fun o => hK o (Nat.le_succ _)) (hbind _ _ _) hget fun h' t1 tk' dx k dn dne e1 n1 => ?_
  refine ⟨rfl, hq h' t1 tk' dx (fun b o z => k b o (fun y => ?_) (kk b o z)) ?_ dne e1 n1⟩
  · have := Heap.lt_size z
    rw [y] at this
    exact absurd this (show ¬ hp.objs.size + 1 < hp.objs.size by omega)
  · have dn' : ((hp.push (PySem.W.kdv_tup [u])).push (PySem.HandSPX.excO C hp.objs.size)).objs.size ≤ dx := dn
    rw [Heap.size_push, Heap.size_push] at dn'
    show hp.objs.size ≤ dx
    omega
end
end DL


namespace DL
open PySem PySem.Spec PySem.Calls PyProof.Rows L2

/-! ### raise of an own class -/
section
variable {X : Cx} {nm f : Str} {C : Addr} {e : Expr} {p pos : Pos}
theorem pmk0 (G : XK0 X.prog X.w X.K X.mg nm C) (hr : Room 1 X.A) (hg : Gl X nm) (hdb : (nm == ("__debug__" : Str)) = false := by decide) : PMk X (.Call (.Name nm p) [] [] pos) (fun _ H Q => Q (.ref C) none H) := by
  intro pins s σ H Q I h
  refine wpAny_Call_Name_kw (ld_glob I hg G.mgC ?_ hdb)
  refine PySem.W.callWith_K0 I.kIn G.T.kC ?_
  obtain ⟨mb, bN, hb⟩ := I.ok.mod.blt
  have ks : ∀ b o, X.base.get? b = some o → s.heap.get? b = some o := fun b o z => (I.bs b o z).1
  refine G.run X.A s _ _ mb I.kIn (fun o _ z => ?_) (I.ok.mod.nolimit.keeps ks) (I.ok.mod.glob.keeps ks) (bN.keeps ks) (hb _ (by decide)) hr fun h' t1 tk k e1 => ?_
  · exact absurd (Heap.lt_size (I.kIn _ _ z)) (Nat.not_lt_of_le (Nat.le_succ _))
  · have hn : s.heap.get? (s.heap.objs.size + 1) = none := by
      cases z : s.heap.get? (s.heap.objs.size + 1) with
      | none => rfl
      | some o => exact absurd (Heap.lt_size z) (Nat.not_lt_of_le (Nat.le_succ _))
    exact ⟨_, _, _, s, H, .ref C, none, rfl, I, k, hn, e1, ⟨rfl, rfl⟩, rfl, rfl, I.hok.fresh (Nat.le_succ _), rfl, I.bare, raises_own G.T.exC G.T.tyC, h⟩
theorem pmk1 (G : XK1 X.prog X.w X.K X.mg nm f C) (hr : Room 1 X.A) (hg : Gl X nm) (hdb : (nm == ("__debug__" : Str)) = false := by decide)
    (hst : starEach [e] X.env = (false, eval e X.env) :: starEach [] X.env := by rfl) :
    PMk X (.Call (.Name nm p) [e] [] pos) (fun σ H Q => SE X e σ H fun v H1 => ∀ dd, H1 dd = none → Q (.ref C) (some dd) (upd H1 dd (.xd [(f, v)]))) := by
  intro pins s σ H Q I h
  refine wpAny_Call_Name_kw (ld_glob I hg G.mgC ?_ hdb)
  have ha : PA X [e] (tCons (SE X e) tNil) := pa_cons pe_SE pa_nil hst
  have h0 : tCons (SE X e) tNil σ H fun vs H1 => ∃ v, vs = [v] ∧ ∀ dd, H1 dd = none → Q (.ref C) (some dd) (upd H1 dd (.xd [(f, v)])) := by
    exact SE.mono h fun v H1 q => ⟨v, rfl, q⟩
  refine PySem.W.callWith_K (h₀ := X.base) I.ok.mod.kin G.T.kC (thn (ha.run pos pins s σ H _ I h0) fun us s1 hh => ?_) hst rfl
  obtain ⟨vs, H1, I1, r1, v, ev, q⟩ := hh
  subst ev
  refine ⟨I1.kIn, ?_⟩
  cases r1 with
  | cons ru rn =>
    rename_i u us'
    cases rn
    show wpAny _ _ (call (.ref C) [u]) _ _ _
    obtain ⟨mb, bN, hb⟩ := I1.ok.mod.blt
    have ks : ∀ b o, X.base.get? b = some o → s1.heap.get? b = some o := fun b o z => (I1.bs b o z).1
    refine G.run X.A s1 u _ _ mb I1.kIn (fun o _ z => ?_) (I1.ok.mod.nolimit.keeps ks) (I1.ok.mod.glob.keeps ks) (bN.keeps ks) (hb _ (by decide)) hr fun h' t1 tk dx k dn dne e1 n1 => ?_
    · exact absurd (Heap.lt_size (I1.kIn _ _ z)) (Nat.not_lt_of_le (Nat.le_succ _))
    · obtain ⟨G', g1, g2⟩ := restrict h' fun b => decide (b ≠ s1.heap.objs.size + 1)
      have gk : ∀ b, b ≠ s1.heap.objs.size + 1 → G'.get? b = h'.get? b := fun b hb => g1 b (decide_eq_true hb)
      have ge : G'.get? (s1.heap.objs.size + 1) = none := g2 _ (by simp)
      have kG : ∀ b o, s1.heap.get? b = some o → G'.get? b = some o := fun b o z => by
        rw [gk b (fun y => absurd (Heap.lt_size (y ▸ z)) (Nat.not_lt_of_le (Nat.le_succ _)))]
        exact k b o z
      have nsG : G'.Ns1 dx (fun y => if y = f then some u else none) := by
        obtain ⟨o, es, ep, z, r⟩ := n1
        exact ⟨o, es, ep, by rw [gk dx dne]; exact z, r⟩
      have J : Inv X pins σ (upd H1 dx (.xd [(f, v)])) { s1 with heap := G', toks := tk } := I1.laid kG dn ⟨_, nsG, fun y => by
        show RelO (List.lookup y [(f, v)]) (if y = f then some u else none)
        by_cases hy : y = f
        · subst hy
          rw [if_pos rfl]
          simp [List.lookup_cons]
          exact ru
        · rw [if_neg hy, List.lookup_cons, show (y == f) = false from beq_false_of_ne hy]
          trivial⟩
      refine ⟨_, _, _, { s1 with heap := G', toks := tk }, _, .ref C, some dx, rfl, J, fun b o z => ?_, ge, e1, ⟨rfl, rfl⟩, rfl, rfl, ?_, rfl, I1.bare, raises_own G.T.exC G.T.tyC, q dx (I1.hok.fresh dn)⟩
      · by_cases hb : b = s1.heap.objs.size + 1
        · have z' : G'.get? b = some o := z
          rw [hb, ge] at z'
          cases z'
        · exact (gk b hb).symm.trans z
      · rw [upd_ne (Ne.symm dne)]
        exact I1.hok.fresh (Nat.le_succ _)
end
section
variable {X : CD} {nm f : Str} {C : Addr} {e : Expr} {p pos pos2 : Pos} {ρ : Rn} {m : Led} {E : EndsD}
theorem s_raise0 (G : XK0 X.prog X.w X.K X.mg nm C) (hr : Room 1 X.A) (h : X.xq nm none ρ m) (hc : X.calm = true := by rfl) (hg : Gl X nm := by rfl) (hdb : (nm == ("__debug__" : Str)) = false := by decide) : S1 X (.Raise (some (.Call (.Name nm p) [] [] pos)) none pos2) ρ m E := .mk fun F σ H en at_ =>
  SS.of (ps_raise hc at_.tk (pmk0 G hr hg hdb)) ⟨nm, C, none, ρ, F, m, G.mgC, rfl, Step.refl at_.toAt, en, rfl, h⟩
theorem s_raise1 (G : XK1 X.prog X.w X.K X.mg nm f C) (hr : Room 1 X.A) (h : EX X e ρ m fun d m1 => X.xq nm (some (f, d)) ρ m1) (hc : X.calm = true := by rfl) (hg : Gl X nm := by rfl) (hdb : (nm == ("__debug__" : Str)) = false := by decide)
    (hst : starEach [e] X.env = (false, eval e X.env) :: starEach [] X.env := by rfl) : S1 X (.Raise (some (.Call (.Name nm p) [e] [] pos)) none pos2) ρ m E := .mk fun F σ H en at_ =>
  SS.of (ps_raise hc at_.tk (pmk1 G hr hg hdb hst)) (h.go en at_ fun v d F1 m1 H1 s1 en1 q r => fun dd hdd => by
    have nw := Step.new (o := .xd [(f, v)]) s1.at2.toAt hdd
    exact ⟨nm, C, some (f, d), ρ, _, m1, G.mgC, rfl, s1.trans nw, en1.mono nw.ex, ⟨dd, v, rfl, upd_same, q.mono nw.ex⟩, r⟩)
end

/-! ### defs that may raise -/
abbrev SpX := List D → Led → (D → Led → Prop) → (Str → Option (Str × D) → Led → Prop) → Prop
def liftX (K : Frag) (mg : Str → Option Value) (sp : SpX) : Sp := fun vs H Q E => ∃ F m ds R XR, Dens K F vs ds ∧ At K F m H ∧ sp ds m R XR ∧ (∀ d m2 v F2 H2, R d m2 → Step K F m H F2 m2 H2 → Den K F2 v d → Q v H2) ∧
  ∀ nm C fd F2 m2 H2 d, XR nm fd m2 → mg nm = some (.ref C) → Step K F m H F2 m2 H2 → FdD K F2 d fd → E (.ref C) d H2
structure KnowsX (P : Program) (w : World) (K : Frag) (mg : Str → Option Value) (base : Heap) (k : Nat) (x : Str) (n : Nat) (dd : List D) (sp : SpX) : Prop where
  fn : ∃ f fd ps ds dvs, FnOk P w K mg base (L2.CX P w) k f fd ps (liftX K mg sp) ∧ mg x = some (.ref f) ∧ PySem.W.keepIn K (.ref f) = true ∧ Binds K fd ps ds ∧ Vals dvs ds ∧ (∀ F, Dens K F dvs dd) ∧ ps.length = n
theorem KnowsX.mono {P : Program} {w : World} {K : Frag} {mg : Str → Option Value} {base : Heap} {k j : Nat} {x : Str} {n : Nat} {dd : List D} {sp : SpX} (G : KnowsX P w K mg base k x n dd sp) (h : k ≤ j) : KnowsX P w K mg base j x n dd sp := by
  obtain ⟨f, fd, ps, ds, dvs, FO, r⟩ := G.fn
  exact ⟨f, fd, ps, ds, dvs, FO.mono h, r⟩
section
variable {X : CD} {e : Expr} {es : List Expr} {ρ : Rn} {m : Led} {R : D → Led → Prop} {x : Str} {p pos : Pos} {k n : Nat} {dd : List D} {sp : SpX}
end
section
variable {P : Program} {w : World} {K : Frag} {mg : Str → Option Value} {base : Heap}
end

/-! ### try .. except X [as n] -/
/-- the class x of the program is caught by a clause that names c -/
def XM (K : Frag) (mg : Str → Option Value) (x c : Str) (b : Bool) : Prop := ∃ C Cc, mg x = some (.ref C) ∧ mg c = some (.ref Cc) ∧ PySem.W.exmOne K (.ref C) (.ref Cc) = some b
theorem Env.cast {X Y : Cx} {F : Hp} {σ : L2.St} {ρ : Rn} (e : DL.Env X F σ ρ) (h1 : Y.N = X.N := by rfl) (h2 : Y.K = X.K := by rfl) : DL.Env Y F σ ρ := ⟨by rw [h1]; exact e.nd, by rw [h1]; exact e.nm, by rw [h2]; exact e.ev⟩
section
variable {X Y : CD} {F H : Hp} {m : Led} {σ : L2.St} {E : EndsD}
theorem PN.cast {R : Rn → Led → Prop} {H2 : Hp} (h : PN X F m H R σ H2) (h1 : Y.N = X.N := by rfl) (h2 : Y.K = X.K := by rfl) : PN Y F m H R σ H2 := by
  obtain ⟨ρ2, F2, m2, s, e, r⟩ := h
  exact ⟨ρ2, F2, m2, by rw [h2]; exact s, e.cast h1 h2, r⟩
theorem SSs.cast {Z : Cx} {sts : List Stmt} {H2 : Hp} (h : SSs Z sts (ED X F m H E) σ H2) (h1 : Y.N = X.N := by rfl) (h2 : Y.K = X.K := by rfl) : SSs Z sts (ED Y F m H E) σ H2 :=
  h.mono (fun _ _ q => q.cast h1 h2) (fun _ _ q => by show PQ Y.K F m H E.rt _ _; rw [h2]; exact q) (fun _ _ q => q.cast h1 h2) fun _ _ q => q.cast h1 h2
end
section
variable {X : CD} {x n : Str} {i : Nat} {body sts : List Stmt} {b₀ : Stmt} {np pos pos' : Pos} {ρ : Rn} {m : Led} {E : EndsD}
abbrev CD.tr (X : CD) (pn : List (Addr × Obj)) (xe : Value → Shared → Prop) (q : XQ) : CD := ⟨X.toCx.tr pn xe, q⟩
abbrev CD.suite (X : CD) (a : Addr) (pn : List (Addr × Obj)) : CD := ⟨X.toCx.suite a pn, fun _ _ _ _ => False⟩
/-- what is wished of an exception in the body of: try .. except x -/
def qOnly (X : CD) (x : Str) (sts : List Stmt) (E : EndsD) : XQ := fun nm fd ρ2 m2 => ∃ b, XM X.K X.mg nm x b ∧ (b = true → ∀ a oe pn, SX (X.suite a ((a, oe) :: pn)) sts ρ2 m2 E) ∧ (b = false → X.xq nm fd ρ2 m2)
def tBody (X : CD) (body : List Stmt) (W : L2.WX) : TS := fun D σ H => ∀ pn xe, Takes (X.toCx.tr pn xe) W → PassesOwn (model X.prog X.w) X.A X.env xe → SSs (X.toCx.tr pn xe) body D σ H
theorem s_try (hc : ∃ Cc, X.mg x = some (.ref Cc)) (h : ∀ pn xe, SX (X.tr pn xe (qOnly X x (b₀ :: sts) E)) body ρ m E) (hs : X.stack = X.env :: X.outer := by rfl) (hf : X.env.frame = some X.env.locals := by rfl) (hg : Gl X x := by rfl) (hdb : (x == ("__debug__" : Str)) = false := by decide) :
    S1 X (.Try body [.ExceptHandler (some (.Name x np)) none (b₀ :: sts) pos'] [] [] pos) ρ m E := .mk fun F σ H en at_ => by
  obtain ⟨Cc, hCc⟩ := hc
  refine SS.of (ps_try_only (tb := tBody X body) (ts := fun a cls d D σ H => ∀ oe pn, SSs (X.toCx.suite a ((a, oe) :: pn)) (b₀ :: sts) D σ H) hs hf ⟨hg, hdb, .inl hCc⟩ at_.tk (fun W pn xe tk po => ⟨fun pins s σ H D I hh => hh pn xe tk po pins s I⟩) (fun a oe cls d pn hz hd => ⟨fun pins s σ H D I hh => hh oe pn pins s I⟩)) ?_
  intro pn xe tk po
  have ax : AtX (X.tr pn xe (qOnly X x (b₀ :: sts) E)) F m H := by
    refine ⟨at_.toAt, tk.imp ?_, po⟩
    intro cls d σ2 H2 ⟨nm, C, fd, ρ2, F2, m2, h1, h2, h3, h4, h5, b, ⟨C', Cc', e1, e2, e3⟩, hy, hn⟩
    subst h2
    have e1' := e1.symm.trans h1
    have e2' := e2.symm.trans hCc
    cases e1'
    cases e2'
    refine ⟨b, e3, fun hb a na oe pn' => ?_, fun hb => ⟨nm, C, fd, ρ2, F2, m2, h1, rfl, h3, h4.cast, h5, hn hb⟩⟩
    exact SSs.cast (X := X.suite a ((a, oe) :: pn')) (SSs.step (X := X.suite a ((a, oe) :: pn')) h3 ((hy hb a oe pn').run F2 σ2 H2 h4.cast (.quiet h3.at2)))
  exact SSs.cast (X := X.tr pn xe (qOnly X x (b₀ :: sts) E)) ((h pn xe).run F σ H en.cast ax)
/-- the exception as a value of the clause's name -/
def ExD (a : Addr) : Option (Str × D) → Addr → D
  | none, _ => .ref a
  | some (f, x), dd => .exc a dd f x
/-- an except suite with the exception named: what is known of its object -/
def SuOk (K : Frag) (mg : Str → Option Value) (nm : Str) (fd : Option (Str × D)) (dd : Addr) (oe : Obj) : Prop := ∃ C, mg nm = some (.ref C) ∧ Zc (.ref C) (fd.map fun _ => dd) oe ∧ ∃ vs, oe.data = .fields vs
inductive DelAt : Rn → Nat → Str → Rn → Prop
  | here {x : Str} {o : Option D} {r : Rn} : DelAt ((x, o) :: r) 0 x ((x, none) :: r)
  | there {x : Str} {r r' : Rn} {q : Str × Option D} {i : Nat} : DelAt r i x r' → DelAt (q :: r) (i + 1) x (q :: r')
/-- what is wished of an exception in the body of: try .. except x as n -/
def qAs (X : CD) (x n : Str) (i : Nat) (sts : List Stmt) (E : EndsD) : XQ := fun nm fd ρ2 m2 => ∃ b, XM X.K X.mg nm x b ∧ (b = true → ∀ a dd oe pn, SuOk X.K X.mg nm fd dd oe → ∃ ρ3, SetAt ρ2 i n (ExD a fd dd) ρ3 ∧
    SX (X.suite a ((a, oe) :: pn)) sts ρ3 m2 { nx := fun ρ4 m4 => ∃ ρ5, DelAt ρ4 i n ρ5 ∧ E.nx ρ5 m4, rt := E.rt, bk := fun ρ4 m4 => ∃ ρ5, DelAt ρ4 i n ρ5 ∧ E.bk ρ5 m4, ct := fun ρ4 m4 => ∃ ρ5, DelAt ρ4 i n ρ5 ∧ E.ct ρ5 m4 }) ∧ (b = false → X.xq nm fd ρ2 m2)
theorem DelAt.eq : ∀ {ρ ρ' : Rn} {i : Nat} {x : Str}, DelAt ρ i x ρ' → ρ' = ρ.set i (x, none) ∧ (ρ.map (·.1))[i]? = some x
  | _, _, _, _, .here => ⟨rfl, rfl⟩
  | _, _, _, _, .there h => by
    obtain ⟨h1, h2⟩ := h.eq
    exact ⟨by rw [List.set_cons_succ, h1], by rw [List.map_cons, List.getElem?_cons_succ]; exact h2⟩
end
end DL


namespace DL
open PySem PySem.Spec PySem.Calls PyProof.Rows L2

section
variable {P : Program} {w : World} {K : Frag} {mg : Str → Option Value} {base : Heap}
/-- a def by its written form, defaults and all -/
abbrev FnD (K : Frag) (x qual : Str) (st : Stmt) (dvs : List V) (f : Addr) (fd : FuncData) : Prop := FunD K x qual (defArgs st) (defBody st) (defScope st) dvs [] f fd
/-- THE RULE for a def that may raise, with defaults -/
theorem def_okD {x qual : Str} {st : Stmt} {f : Addr} {fd : FuncData} {dvs : List V} {N ps : List Str} {k : Nat} {sp : SpX} (F : FnD K x qual st dvs f fd) (S : FnScope N ps (defScope st)) (len : ∀ ds m R XR, sp ds m R XR → ds.length = ps.length)
    (body : ∀ (cdv : Value) (A : Around) (outer : List PySem.Env) (s : Shared) (H : Hp) (E : XK) (ds : List D) (m : Led) (R : D → Led → Prop) (XR : Str → Option (Str × D) → Led → Prop), Room k (A.deeper (envOfC qual (defScope st) s.heap.objs.size f cdv)) → sp ds m R XR →
      SX ⟨cxOf (L2.CX P w) P w K mg base N qual (defScope st) f cdv A outer s H E, fun nm fd _ m2 => ∃ m3, m3.Sublist m2 ∧ XR nm fd m3⟩ (defBody st) (startR N ds) m { nx := fun _ m2 => ∃ m3, m3.Sublist m2 ∧ R .non m3, rt := fun d m2 => ∃ m3, m3.Sublist m2 ∧ R d m3 }) : FnOk P w K mg base (L2.CX P w) (k + 1) f fd ps (liftX K mg sp) := by
  refine F.ok S (fun vs H Q E ⟨F0, m, ds, R, XR, q, _, h, _⟩ => by rw [q.length]; exact len ds m R XR h) (fun cdv A outer s H vs Q E hr ⟨F0, m, ds, R, XR, q, at_, h, k, kx⟩ => ?_)
  refine ⟨_, pss_SS, ?_⟩
  have hb := body cdv A outer s H E ds m R XR hr h
  have hl : vs.length ≤ N.length := by
    rw [q.length, len ds m R XR h]
    have := congrArg List.length S.pre
    rw [List.length_take] at this
    omega
  have en : DL.Env (cxOf (L2.CX P w) P w K mg base N qual (defScope st) f cdv A outer s H E) F0 (start N vs) (startR N ds) := ⟨S.nd, startR_names N ds, startR_envs N vs ds hl q⟩
  have ax : AtX ⟨cxOf (L2.CX P w) P w K mg base N qual (defScope st) f cdv A outer s H E, fun nm fd _ m2 => ∃ m3, m3.Sublist m2 ∧ XR nm fd m3⟩ F0 m H := by
    refine ⟨at_, ?_, passes_of rfl⟩
    refine (takes_of (E := E) rfl rfl rfl rfl).imp fun cls d σ H2 ⟨nm, C, fd', ρ2, F2, m2, h1, h2, h3, h4, h5, m3, sl, xr⟩ => ?_
    subst h2
    exact kx nm C fd' F2 m3 H2 d xr h1 (h3.trans (Step.drop h3.at2 sl)) h5
  refine (hb.run F0 (start N vs) H en ax).mono (fun σ2 H2 ⟨ρ2, F2, m2, s2, en2, m3, sl, r⟩ => ?_) (fun v H2 ⟨d, F2, m2, s2, q2, m3, sl, r⟩ => ?_) (fun _ _ ⟨_, _, _, _, _, z⟩ => z) (fun _ _ ⟨_, _, _, _, _, z⟩ => z)
  · exact k .non m3 .non F2 H2 r (s2.trans (Step.drop s2.at2 sl)) .non
  · exact k d m3 v F2 H2 r (s2.trans (Step.drop s2.at2 sl)) q2
end

/-! ### a call with keywords alone -/
structure KnowsK (P : Program) (w : World) (K : Frag) (mg : Str → Option Value) (base : Heap) (k : Nat) (x : Str) (ks : List Str) (gD : List D → List D) (sp : SpX) : Prop where
  fn : ∃ f fd ps g gV, FnOk P w K mg base (L2.CX P w) k f fd ps (liftX K mg sp) ∧ mg x = some (.ref f) ∧ PySem.W.keepIn K (.ref f) = true ∧ KBn K fd ps 0 ks g gV ∧ ∀ F zs ds, Dens K F zs ds → zs.length = ks.length → Dens K F (gV [] zs) (gD ds)
theorem KnowsK.mono {P : Program} {w : World} {K : Frag} {mg : Str → Option Value} {base : Heap} {k j : Nat} {x : Str} {ks : List Str} {gD : List D → List D} {sp : SpX} (G : KnowsK P w K mg base k x ks gD sp) (h : k ≤ j) : KnowsK P w K mg base j x ks gD sp := by
  obtain ⟨f, fd, ps, g, gV, FO, r⟩ := G.fn
  exact ⟨f, fd, ps, g, gV, FO.mono h, r⟩

def SK (X : Cx) (kws : List Keyword) (σ : L2.St) (H : Hp) (Q : List V → Hp → Prop) : Prop := ∀ pos pins s, Inv X pins σ H s → wpAny (model X.prog X.w) X.A (evalAll ((backToKw pos (keywordEach kws X.env)).map (·.2))) (AP X pins σ Q) X.xe s
theorem SK.of {X : Cx} {kws : List Keyword} {σ : L2.St} {H : Hp} {t : TA} {Q : List V → Hp → Prop} (h : PK X kws t) (q : t σ H Q) : SK X kws σ H Q := fun pos pins s I => h.run pos pins s σ H Q I q
theorem SK.mono {X : Cx} {kws : List Keyword} {σ : L2.St} {H : Hp} {Q Q' : List V → Hp → Prop} (h : SK X kws σ H Q) (q : ∀ v H', Q v H' → Q' v H') : SK X kws σ H Q' := fun pos pins s I => thn (h pos pins s I) fun u s' ⟨v, H', I', r, k⟩ => ⟨v, H', I', r, q v H' k⟩
structure KX (X : CD) (kws : List Keyword) (ρ : Rn) (m : Led) (R : List D → Led → Prop) : Prop where
  run : ∀ F σ H, Env X F σ ρ → AtX X F m H → SK X kws σ H (PL X.K F m H R)
section
variable {X : CD} {e : Expr} {kws : List Keyword} {ks : List Str} {nm : Option Str} {gD : List D → List D} {ρ : Rn} {m : Led} {R : D → Led → Prop} {x : Str} {p pos kpos : Pos} {k : Nat} {sp : SpX}
end

/-! ### a def called within an except suite -/
structure KnowsP (P : Program) (w : World) (K : Frag) (mg : Str → Option Value) (base : Heap) (k : Nat) (x : Str) (n : Nat) (sp : SpD) : Prop where
  fn : ∃ (f : Addr) (fd : FuncData) (ps : List Str), (∀ (A : Around) (outer : List PySem.Env) (s : Shared) (H : Hp) (args : Args) (us : List Value) (vs : List V) (Q : VK) (E : XK) (p : Addr × Obj), L2H.RoomH k A → L2H.PinOk outer H s p → Env0 P w K mg base A outer s H → BindsTo s fd args (ps.zip us) → Vals vs us → lift K sp vs H Q E →
      codeAny (model P w) A (.call (.ref f) args) (CR CX0 outer P w H s Q E) s) ∧ mg x = some (.ref f) ∧ PySem.W.keepIn K (.ref f) = true ∧ Binds K fd ps [] ∧ ps.length = n ∧ ∀ ds m R, sp ds m R → ds.length = n
section
variable {P : Program} {w : World} {K : Frag} {mg : Str → Option Value} {base : Heap}
end
section
variable {X : CD} {e : Expr} {es : List Expr} {ρ : Rn} {m : Led} {R : D → Led → Prop} {x : Str} {p pos : Pos} {k n : Nat} {sp : SpD} {a : Addr} {oe : Obj} {pn : List (Addr × Obj)}
end
end DL


namespace DL
open PySem PySem.Spec PyProof.Rows L2 RZ

/-! ### comprehensions over pairs -/
section
variable {X : CD} {elt it : Expr} {scope : Scope} {ρ : Rn} {m : Led} {R : D → Led → Prop} {pos p0 p1 p2 : Pos} {y z : Str} {j k n0 : Nat}
def CompP (X : CD) (scope : Scope) (ifs : List Expr) (elt : Expr) (y : Str) (j : Nat) (z : Str) (k : Nat) (ρ : Rn) (R : List D → Led → Prop) (ds : List D) (m1 : Led) : Prop := ∃ I : Nat → List D → Led → Prop, I 0 [] m1 ∧
  (∀ i d acc m', ds[i]? = some d → I i acc m' → ∃ d1 d2 ρ1 ρ2, d = .tup [d1, d2] ∧ SetAt ρ j y d1 ρ1 ∧ SetAt ρ1 k z d2 ρ2 ∧ ∀ (s : Shared) (H0 : Hp) (C : Addr) (cl : List (Str × Addr)) (fp : List Addr),
    match ifs with
    | [] => EX (X.blk s H0 scope (compEnvC scope cl C X.env) fp) elt ρ2 m' fun z m3 => acc.length < 100000 ∧ I (i + 1) (acc ++ [z]) m3
    | [c] => TX (X.blk s H0 scope (compEnvC scope cl C X.env) fp) c ρ2 m' fun k m2 => (k = true → ∀ (s : Shared) (H0 : Hp) (C : Addr) (cl : List (Str × Addr)) (fp : List Addr), EX (X.blk s H0 scope (compEnvC scope cl C X.env) fp) elt ρ2 m2 fun z m3 => acc.length < 100000 ∧ I (i + 1) (acc ++ [z]) m3) ∧ (k = false → I (i + 1) acc m2)
    | _ => False) ∧ ∀ acc m', I ds.length acc m' → R acc m'
end
end DL


namespace DL
open PySem PySem.Spec PyProof.Rows L2 RZ

/-! ### == through the ledger, at any depth -/
mutual
inductive DW (m : Led) : D → D → Prop
  | now (d : D) : DW m d d
  | led {i : Nat} {a : Addr} {ds es : List D} : m[i]? = some (a, .lst ds) → DWs m ds es → DW m (.ref a) (.lst es)
  | tup {ds es : List D} : DWs m ds es → DW m (.tup ds) (.tup es)
inductive DWs (m : Led) : List D → List D → Prop
  | nil : DWs m [] []
  | cons {d e : D} {ds es : List D} : DW m d e → DWs m ds es → DWs m (d :: ds) (e :: es)
end
theorem DWs.now {m : Led} : ∀ ds : List D, DWs m ds ds
  | [] => .nil
  | d :: ds => .cons (.now d) (DWs.now ds)
mutual
theorem DW.dp {K : Frag} {F H : Hp} {m : Led} (at_ : At K F m H) : ∀ {d d' : D} {v : V} (n : Nat), DW m d d' → Sh n d' → Den K F v d → Dp K H v (py d')
  | _, _, v, n, .now d, hs, q => Dp.up at_.sub (q.dp n _ _ hs)
  | _, _, v, 0, .led _ _, hs, _ => hs.elim
  | _, _, v, n + 1, .led hi h, hs, q => by
    cases q
    obtain ⟨hh, ⟨xs, rfl, qs⟩, e⟩ := at_.get hi
    exact .lst (.inl (.inl e)) (DWs.dp at_ n h hs qs)
  | _, _, v, 0, .tup _, hs, _ => hs.elim
  | _, _, v, n + 1, .tup h, hs, q => by
    cases q with
    | tup q qs => exact .tup (at_.sub.sqT q) (DWs.dp at_ n h hs qs)
theorem DWs.dp {K : Frag} {F H : Hp} {m : Led} (at_ : At K F m H) : ∀ {ds es : List D} {vs : List V} (n : Nat), DWs m ds es → (∀ x ∈ es, Sh n x) → Dens K F vs ds → DpAll K H vs (pys es)
  | _, _, _, n, .nil, _, .nil => .nil
  | _, _, _, n, .cons h hs, k, .cons q qs => .cons (DW.dp at_ n h (k _ List.mem_cons_self) q) (DWs.dp at_ n hs (fun x hx => k x (List.mem_cons_of_mem _ hx)) qs)
end
section
variable {X : CD} {d1 d2 e1 e2 : D} {m : Led} {R : D → Led → Prop}
end

section
variable {X : CD} {d : D} {m : Led} {R : D → Led → Prop}
end

/-! ### the forms that the walker takes -/
section
variable {X : CD} {e : Expr} {es : List Expr} {kws : List Keyword} {ρ : Rn} {m : Led} {R : D → Led → Prop} {E : EndsD} {x nm f : Str} {p pos pos2 np pos' : Pos} {k n : Nat} {dd : List D} {sp : SpX} {mg : Str → Option Value} {P : Program} {w : World} {K : Frag} {base : Heap} {C : Addr} {ks : List Str} {gD : List D → List D}
theorem c_raise0 (G : XK0 P w K mg nm C) (hr : Room 1 X.A) (h : X.xq nm none ρ m) (hX : X.prog = P ∧ X.w = w ∧ X.K = K ∧ X.mg = mg := by exact ⟨rfl, rfl, rfl, rfl⟩) (hc : X.calm = true := by rfl) (hg : Gl X nm := by rfl) (hdb : (nm == ("__debug__" : Str)) = false := by decide) : S1 X (.Raise (some (.Call (.Name nm p) [] [] pos)) none pos2) ρ m E := by
  obtain ⟨rfl, rfl, rfl, rfl⟩ := hX
  exact s_raise0 G hr h hc hg hdb
theorem c_raise1 (G : XK1 P w K mg nm f C) (hr : Room 1 X.A) (h : EX X e ρ m fun d m1 => X.xq nm (some (f, d)) ρ m1) (hX : X.prog = P ∧ X.w = w ∧ X.K = K ∧ X.mg = mg := by exact ⟨rfl, rfl, rfl, rfl⟩) (hc : X.calm = true := by rfl) (hg : Gl X nm := by rfl) (hdb : (nm == ("__debug__" : Str)) = false := by decide)
    (hst : starEach [e] X.env = (false, eval e X.env) :: starEach [] X.env := by rfl) : S1 X (.Raise (some (.Call (.Name nm p) [e] [] pos)) none pos2) ρ m E := by
  obtain ⟨rfl, rfl, rfl, rfl⟩ := hX
  exact s_raise1 G hr h hc hg hdb hst
end
/-- a class's own __init__ (the j-th statement of the class's body) -/
def inClass (st : Stmt) (j : Nat) : Stmt := match st with
  | .ClassDef _ _ _ body _ _ _ _ _ _ _ => body.getD j (.Pass ⟨0, 0, 0, 0⟩)
  | _ => .Pass ⟨0, 0, 0, 0⟩
end DL


namespace DL
open PySem PySem.Spec PySem.Calls PyProof.Rows L2 RZ

/-! ### dicts whose keys are tuples of ints -/
abbrev kI (P : Program) (w : World) : HeapKind P w (List Int) := tupleKind (PySem.intKind P w)
theorem ints_are {P : Program} {w : World} : ∀ {k : List Int} {its : List Value}, Vals (k.map V.int) its → ItemsAre (PySem.intKind P w) k its
  | [], _, .nil => .nil
  | i :: k, _, .cons r t => .cons (by obtain ⟨t, e⟩ := r; subst e; simp [PySem.intKind, Value.isInt]) (ints_are t)
theorem keyI {X : Cx} {pins : List (Addr × Obj)} {σ : L2.St} {H : Hp} {s : Shared} {b : Addr} {k : List Int} (I : Inv X pins σ H s) (h : SqT X.K H b (k.map V.int)) : (kI X.prog X.w).is s.heap k b := by
  obtain ⟨its, r, ⟨o, e1, e2, n, e3⟩, _⟩ := I.tuple h
  exact ⟨o, its.toArray, n, e1, e2, e3, by simpa using ints_are r⟩
theorem objO_get {P : Program} {w : World} {H : Hp} {h : Heap} {a : Addr} {o : Obj} (ok : HOk P w H h) (e : H a = some (objO a o)) : h.get? a = some o := (ok a _ e).1
theorem objO_ok {P : Program} {w : World} {H : Hp} {h : Heap} {a : Addr} {o : Obj} (e : h.get? a = some o) : ObjOk P w H h a (objO a o) := ⟨e, ⟨o, e⟩, fun h1 h2 e1 k => k o e1⟩
theorem dictI {X : Cx} {pins : List (Addr × Obj)} {σ : L2.St} {H : Hp} {s : Shared} {a : Addr} {o : Obj} {xs : List (List Int × Addr × Value)} (I : Inv X pins σ H s) (h : H a = some (objO a o)) (d : DictObj a o xs) (t : ∀ x ∈ xs, SqT X.K H x.2.1 (x.1.map V.int)) : s.heap.DictOfH (kI X.prog X.w) a xs := by
  obtain ⟨ep, e⟩ := d.dat
  exact ⟨o, _, ep, objO_get I.hok h, d.ex, e, by simp; intro a b c _; rfl, fun x hx => keyI I (t x hx), d.nod⟩
theorem dictObj_of {P : Program} {w : World} {h : Heap} {a : Addr} {xs : List (List Int × Addr × Value)} (d : h.DictOfH (kI P w) a xs) (hl : xs.length ≤ sizeLine) (hs : (a == sysModules) = false) : ∃ o, h.get? a = some o ∧ DictObj a o xs := by
  obtain ⟨o, es, ep, h1, h2, h3, h4, _, h6⟩ := d
  refine ⟨o, h1, h2, ⟨ep, ?_⟩, h6, hl, hs⟩
  rw [h3]
  congr 1
  have : es = es.toList.toArray := by simp
  rw [this, h4]
  rfl
/-- the dict's data -/
structure DictD (K : Frag) (F : Hp) (a : Addr) (H : Hp) (ks : List (List Int)) (ds : List D) : Prop where
  ex : ∃ (o : Obj) (xs : List (List Int × Addr × Value)) (vs : List V), H a = some (objO a o) ∧ DictObj a o xs ∧ xs.map (·.1) = ks ∧ (∀ x ∈ xs, SqT K H x.2.1 (x.1.map V.int)) ∧ Vals vs (xs.map (·.2.2)) ∧ Dens K F vs ds
def DicV (m : Led) (d : D) (ks : List (List Int)) (ds : List D) : Prop := d = .dI ks ds ∨ ∃ (i : Nat) (a : Addr), d = .ref a ∧ m[i]? = some (a, .dI ks ds)
theorem DicV.read {K : Frag} {F H : Hp} {m : Led} {d : D} {ks : List (List Int)} {ds : List D} {v : V} (h : DicV m d ks ds) (a : At K F m H) (q : Den K F v d) : ∃ p, v = .ref p ∧ DictD K F p H ks ds := by
  rcases h with rfl | ⟨i, p, rfl, hi⟩
  · cases q with
    | dI h ho hk ht hv hs => exact ⟨_, rfl, _, _, _, a.sub _ _ h, ho, hk, fun x hx => a.sub.sqT (ht x hx), hv, hs⟩
  · cases q
    obtain ⟨hh, ⟨o, xs, vs, rfl, ho, hk, ht, hv, hs⟩, e⟩ := a.get hi
    exact ⟨p, rfl, o, xs, vs, e, ho, hk, fun x hx => a.sub.sqT (ht x hx), hv, hs⟩
theorem DictD.length {K : Frag} {F H : Hp} {a : Addr} {ks : List (List Int)} {ds : List D} (h : DictD K F a H ks ds) : ks.length = ds.length := by
  obtain ⟨o, xs, vs, _, _, rfl, _, hv, hs⟩ := h.ex
  rw [← hs.length, hv.length]
  simp
theorem atKey_at {xs : List (List Int × Addr × Value)} (nd : (xs.map (·.1)).Nodup) : ∀ {i : Nat} {x : List Int × Addr × Value}, xs[i]? = some x → atKey xs x.1 = some x.2 := by
  induction xs with
  | nil => intro i x h; simp at h
  | cons y ys ih =>
    intro i x h
    rw [List.map_cons, List.nodup_cons] at nd
    cases i with
    | zero =>
      simp at h
      subst h
      simp [atKey]
    | succ i =>
      have h' : ys[i]? = some x := by simpa using h
      have ne : y.1 ≠ x.1 := fun e => nd.1 (e ▸ List.mem_map.mpr ⟨x, List.mem_of_getElem? h', rfl⟩)
      have := ih nd.2 h'
      simpa [atKey, ne] using this
theorem atKey_none {xs : List (List Int × Addr × Value)} {k : List Int} (h : k ∉ xs.map (·.1)) : atKey xs k = none := by
  simp only [atKey, Option.map_eq_none_iff, List.find?_eq_none, decide_eq_true_eq]
  intro x hx e
  exact h (e ▸ List.mem_map.mpr ⟨x, hx, rfl⟩)
theorem DictD.at {K : Frag} {F H : Hp} {a : Addr} {ks : List (List Int)} {ds : List D} {i : Nat} {k : List Int} {d : D} (h : DictD K F a H ks ds) (hk : ks[i]? = some k) (hd : ds[i]? = some d) :
    ∃ (o : Obj) (xs : List (List Int × Addr × Value)) (b : Addr) (u : Value) (v : V), H a = some (objO a o) ∧ DictObj a o xs ∧ xs.map (·.1) = ks ∧ (∀ x ∈ xs, SqT K H x.2.1 (x.1.map V.int)) ∧ atKey xs k = some (b, u) ∧ RelV v u ∧ Den K F v d := by
  obtain ⟨o, xs, vs, h1, h2, rfl, h4, hv, hs⟩ := h.ex
  obtain ⟨v, hv1, q⟩ := hs.get hd
  obtain ⟨u, hu, ru⟩ := hv.get hv1
  rw [List.getElem?_map] at hk hu
  cases e : xs[i]? with
  | none => rw [e] at hk; cases hk
  | some x =>
    rw [e] at hk hu
    obtain rfl : x.1 = k := Option.some.inj hk
    obtain rfl : x.2.2 = u := Option.some.inj hu
    exact ⟨o, xs, x.2.1, x.2.2, v, h1, h2, rfl, h4, atKey_at h2.nod e, ru, q⟩
section
variable {X : CD} {m : Led} {R : D → Led → Prop} {E : XR} {d d1 d2 : D} {ks : List (List Int)} {ds : List D} {k : List Int} {i : Nat}
theorem key_read {K : Frag} {F H : Hp} {v : V} (at_ : At K F m H) (q : Den K F v (.tup (k.map D.int))) : ∃ b, v = .ref b ∧ SqT K H b (k.map V.int) := by
  obtain ⟨b, xs, rfl, h, hs⟩ := tup_read at_ q
  rw [hs.ints] at h
  exact ⟨b, rfl, h⟩
theorem roomI {A : Around} (hu : A.units + 64 < cLine) {P : Program} {w : World} : (kI P w).room A.in1 := by
  show A.units + 1 < cLine
  omega
theorem subTail_dict {prog : Program} {w : World} {A : Around} {E : Value → Shared → Prop} {s : Shared} {value slice : Expr} {o i : Value} {Q : Value → Shared → Prop} (hT : s.TypeIs o "dict") (hs : subscripted slice false o i = operate [o, i] (getItem o i))
    (h : wpAny (model prog w) A (getItem o i) Q E s) : wpAny (model prog w) A (subscriptTail value slice o i) Q E s := by
  unfold subscriptTail
  refine wpAny_bind ?_
  rw [getitemInPython_of_ne hT.not_modules]
  refine wpAny_bind (wpAny_specialOf hT PySem.F.slot_dict_getitem.lookup ?_)
  have fin : wpAny (model prog w) A (subscripted slice false o i) (fun r s₃ => wpAny (model prog w) A (letTemporaryGo value o r >>= fun _ => pure r) Q E s₃) E s := by
    rw [hs]
    exact wpAny_operating (wpAny_mono h (fun r s₃ h₃ => wpAny_bind (wpAny_letTemporaryGo (wpAny_pure h₃))) fun _ _ x => x)
  first
    | exact wpAny_pure (wpAny_bind fin)
    | exact wpAny_bind (wpAny_pure (wpAny_bind fin))
    | exact wpAny_bind fin
theorem i_dic {x : D} (hu : X.A.units + 64 < cLine) (h : DicV m d1 ks ds) (hk : ks[i]? = some k) (hd : ds[i]? = some x) (kk : R x m) : IxX X d1 (.tup (k.map D.int)) m R := .mk fun value slice F σ H a b pins s v u q1 q2 at_ I rx ry hs => by
  obtain ⟨p, rfl, dd⟩ := h.read at_.toAt q1
  obtain ⟨c, rfl, sq⟩ := key_read at_.toAt q2
  obtain ⟨o, xs, b', u', w', h1, h2, h3, h4, h5, ru, qd⟩ := dd.at hk hd
  cases rx
  cases ry
  have dh := dictI I h1 h2 h4
  refine subTail_dict dh.typeIs hs ?_
  exact wpAny_getItem_heap (roomI hu) (keyI I sq) dh h5 ⟨w', H, I.tok _, ru, PQ.now at_.toAt qd kk⟩
theorem DictD.has {K : Frag} {F H : Hp} {a : Addr} {ks : List (List Int)} {ds : List D} (h : DictD K F a H ks ds) (k : List Int) : ∃ (o : Obj) (xs : List (List Int × Addr × Value)), H a = some (objO a o) ∧ DictObj a o xs ∧ xs.map (·.1) = ks ∧ (∀ x ∈ xs, SqT K H x.2.1 (x.1.map V.int)) ∧ (atKey xs k).isSome = decide (k ∈ ks) := by
  obtain ⟨o, xs, vs, h1, h2, h3, h4, hv, hs⟩ := h.ex
  refine ⟨o, xs, h1, h2, h3, h4, ?_⟩
  by_cases hm : k ∈ ks
  · rw [decide_eq_true hm]
    rw [← h3] at hm
    obtain ⟨x, hx, e⟩ := List.mem_map.mp hm
    obtain ⟨i, hi⟩ := List.mem_iff_getElem?.mp hx
    rw [← e, atKey_at h2.nod hi]
    rfl
  · rw [decide_eq_false hm, atKey_none (by rw [h3]; exact hm)]
    rfl
theorem o_inD (hu : X.A.units + 64 < cLine) (h : DicV m d2 ks ds) (kk : R (.bl (decide (k ∈ ks))) m) : OX X (compareOp .In) (.tup (k.map D.int)) d2 m R := .mk fun F σ H x y pins s v u q1 q2 at_ I rx ry => by
  obtain ⟨p, rfl, dd⟩ := h.read at_.toAt q2
  obtain ⟨c, rfl, sq⟩ := key_read at_.toAt q1
  obtain ⟨o, xs, h1, h2, h3, h4, h5⟩ := dd.has k
  cases rx
  cases ry
  refine wpAny_in_heap (roomI hu) (keyI I sq) h2.sys (dictI I h1 h2 h4) ?_
  rw [h5]
  exact ⟨.bl _, H, I.tok _, rfl, PQ.now at_.toAt (.bl _) kk⟩
theorem o_notinD (hu : X.A.units + 64 < cLine) (h : DicV m d2 ks ds) (kk : R (.bl (!decide (k ∈ ks))) m) : OX X (compareOp .NotIn) (.tup (k.map D.int)) d2 m R := .mk fun F σ H x y pins s v u q1 q2 at_ I rx ry => by
  obtain ⟨p, rfl, dd⟩ := h.read at_.toAt q2
  obtain ⟨c, rfl, sq⟩ := key_read at_.toAt q1
  obtain ⟨o, xs, h1, h2, h3, h4, h5⟩ := dd.has k
  cases rx
  cases ry
  refine wpAny_notIn_heap (roomI hu) (keyI I sq) h2.sys (dictI I h1 h2 h4) ?_
  rw [h5]
  exact ⟨.bl _, H, I.tok _, rfl, PQ.now at_.toAt (.bl _) kk⟩
theorem b_lenD (h : DicV m d ks ds) (kk : R (.int (ks.length : Nat)) m) : BX X (.builtin "len") [d] m R := .mk fun F σ H xs pins s us qs at_ I rs => by
  obtain ⟨v, rfl, q⟩ := qs.one
  obtain ⟨p, rfl, dd⟩ := h.read at_.toAt q
  obtain ⟨o, xs, h1, h2, h3, h4, _⟩ := dd.has []
  obtain ⟨u, rfl, rx⟩ := vals1 rs
  obtain rfl : u = .ref p := rx
  have hz := h2.len
  refine call_len_dictH h2.sys (dictI I h1 h2 h4) (by rw [sizeLine_eq] at hz; omega) ?_
  have e : xs.length = ks.length := by rw [← h3]; simp
  rw [e]
  exact ⟨.int _, H, I.tok _, ⟨_, rfl⟩, PQ.now at_.toAt (.int _) kk⟩
end
end DL


namespace DL
open PySem PySem.Spec PySem.Calls PyProof.Rows L2 RZ

/-! ### the keys of a dict, walked -/
def Itx (d : Addr) (o : Obj) (xs : List (List Int × Addr × Value)) : It :=
  ⟨fun i H => H d = some (objO d o) ∧ i < xs.length, fun i H x H' => H' = H ∧ ∃ y, xs[i]? = some y ∧ x = .ref y.2.1, fun i H => H d = some (objO d o) ∧ xs.length ≤ i⟩
theorem entI_at {xs : List (List Int × Addr × Value)} {i : Nat} {y : List Int × Addr × Value} (h : xs[i]? = some y) : (xs.map entI).toArray[i]? = some (entI y) := by
  simp [h]
theorem turn_Itx {P : Program} {w : World} {K : PySem.W.Frag} {tg : Expr} {d : Addr} {o : Obj} {ep : Nat} {xs : List (List Int × Addr × Value)} (it : Addr) (hod : o.data = .dict (xs.map entI).toArray ep) : Turn P w K tg (Itx d o xs) [it] it (fun i h => h.IsKeyIter it d i xs.length ep) where
  mem := by simp
  obj := fun i h st b hb => by
    have e : b = it := by simpa using hb
    subst e
    obtain ⟨oi, e, c, dd⟩ := st
    exact ⟨oi, e, fun v z => by rw [dd] at z; cases z⟩
  keep := fun i h h' st k => st.at fun oi e => k it (by simp) oi e
  item := by
    intro X hP hw hK hc i pins s σ H E I hf st hg
    subst hP hw hK
    obtain ⟨hd, hi⟩ := hg
    obtain ⟨f0, f1, f2, f3, f4, f5⟩ := hf it (by simp)
    have hgd := objO_get I.hok hd
    have hy : xs[i]? = some xs[i] := List.getElem?_eq_getElem hi
    refine next_key_item st hgd hod (by simp) (entI_at hy) fun h' st' sb => ?_
    have I1 : Inv X pins σ H { s with heap := h' } := I.turned (t' := s.toks) (fun b ob hb e => (sb.2 b hb).trans e) f0 f1 f3 f4 f5
    obtain ⟨oi, e, c, dd⟩ := id st'
    exact ⟨(entI xs[i]).key, rfl, go_of (s := { s with heap := h' }) e c dd (by decide) ⟨.ref xs[i].2.1, H, I1, rfl, ⟨rfl, _, hy, rfl⟩, st', fun b hb => (hf b hb).1⟩⟩
  done := by
    intro X hP hw hK hc i pins s σ H E I hf st hg
    subst hP hw hK
    obtain ⟨hd, hi⟩ := hg
    obtain ⟨f0, f1, f2, f3, f4, f5⟩ := hf it (by simp)
    have hgd := objO_get I.hok hd
    exact next_key_end (I.ok.hd hc) st hgd hod (by simp) hi fun h' eb => ⟨rfl, I.turned (t' := s.toks) (fun b ob hb e => eb b ob hb e) f0 f1 f3 f4 f5⟩
  self := fun A i s Q E st h => by
    refine wpAny_pyIter_slot st.typeIs F.slot_dict_keyiterator_iter (wpAny_call_entry F.slot_dict_keyiterator_iter st.typeIs F.entry_dict_keyiterator_iter ?_ (F.args_dict_keyiterator_iter_1 _))
    show wpAny _ _ (ret (.ref it)) _ _ s
    exact wpAny_pure ⟨_, rfl, "dict_keyiterator", _, st.typeIs, F.slot_dict_keyiterator_next.lookup, h⟩
theorem walk_Itx {d : Addr} {o : Obj} {xs : List (List Int × Addr × Value)} : Walk (Itx d o xs) xs.length (fun H => H d = some (objO d o)) (YAt (xs.map fun y => .ref y.2.1)) :=
  ⟨fun i _ hi q => ⟨q, hi⟩, fun _ q => ⟨q, Nat.le_refl _⟩, fun i H x H' hi q ⟨e, y, hy, ex⟩ => ⟨e, by rw [List.getElem?_map, hy, ex]; rfl⟩⟩
/-- lists, tuples and dicts alike -/
def keyD (k : List Int) : D := .tup (k.map .int)
theorem keys_dens {K : Frag} {F : Hp} : ∀ {xs : List (List Int × Addr × Value)}, (∀ x ∈ xs, SqT K F x.2.1 (x.1.map V.int)) → Dens K F (xs.map fun y => .ref y.2.1) ((xs.map (·.1)).map keyD)
  | [], _ => .nil
  | x :: xs, h => .cons (.tup (h x (by simp)) Dens.of_ints) (keys_dens fun y hy => h y (by simp [hy]))
def iSeqD (X : CD) (it : Expr) : TI := fun σ H R => SE X it σ H fun x H1 => ∃ a, x = .ref a ∧ (((∃ xs, SqL X.K H1 a xs) ∧ R (Itl X.K a) H1) ∨ ((∃ xs, SqT X.K H1 a xs) ∧ R (Itt X.K a) H1) ∨ ∃ o xs, H1 a = some (objO a o) ∧ DictObj a o xs ∧ R (Itx a o xs) H1)
theorem pi_seqD {X : CD} {tg l : Expr} : PI X tg l (iSeqD X l) := by
  refine ⟨fun pins s σ H R I h => ?_⟩
  refine thn (h pins s I) fun v s1 ⟨x, H1, I1, r1, q1⟩ => ?_
  obtain ⟨a, e, ⟨⟨xs, hq⟩, q⟩ | ⟨⟨xs, hq⟩, q⟩ | ⟨o, xs, ho, hd, q⟩⟩ := q1
  · subst e
    cases r1
    obtain ⟨its, rv, p, hz⟩ := I1.list hq
    refine wpAny_pyIter_list p.isList ?_
    exact pi_one (tk := s1.toks) I1 _ (turn_list a _) ⟨_, Heap.get?_push_size _ rfl, rfl, rfl⟩ q
  · subst e
    cases r1
    obtain ⟨its, rv, p, hz⟩ := I1.tuple hq
    refine wpAny_pyIter_tuple (show s1.heap.IsTuple a its.toArray from p) ?_
    exact pi_one (tk := s1.toks) I1 _ (turn_tuple a _) ⟨_, Heap.get?_push_size _ rfl, rfl, rfl⟩ q
  · subst e
    cases r1
    obtain ⟨ep, hdt⟩ := hd.dat
    refine iter_keys hd.sys (objO_get I1.hok ho) hd.ex hdt (pi_one (tk := s1.toks) I1 _ (turn_Itx _ hdt) ⟨_, Heap.get?_push_size _ rfl, rfl, ?_⟩ q)
    simp
def SeqD (d : D) (ds : List D) : Prop := d = .lst ds ∨ d = .tup ds ∨ ∃ ks vs, d = .dI ks vs ∧ ds = ks.map keyD
theorem ix_seqD {X : CD} {tg it : Expr} {ρ : Rn} {m : Led} {R : List D → Led → Prop} (h : EX X it ρ m fun d m1 => ∃ ds, SeqD d ds ∧ R ds m1) : IX X tg it ρ m R := .mk fun F σ H en at_ =>
  SI.of pi_seqD (h.go en at_ fun v d F1 m1 H1 s1 en1 q ⟨ds, ed, r⟩ => by
    rcases ed with rfl | rfl | ⟨ks, vs, rfl, rfl⟩
    · cases q with
      | lst hq hs => exact ⟨_, rfl, .inl ⟨⟨_, .inl (s1.at2.sub.rd hq)⟩, ds, F1, m1, s1, r, by rw [← hs.length]; exact walk_list.mono (fun H' e => .inl (e.rd hq)) fun i H' x H'' _ _ y => yd_at hs y⟩⟩
    · cases q with
      | tup hq hs => exact ⟨_, rfl, .inr (.inl ⟨⟨_, s1.at2.sub.sqT hq⟩, ds, F1, m1, s1, r, by rw [← hs.length]; exact walk_tup.mono (fun H' e => e.sqT hq) fun i H' x H'' _ _ y => yd_at hs y⟩)⟩
    · cases q with
      | dI ho hd hk ht hv hs =>
        subst hk
        refine ⟨_, rfl, .inr (.inr ⟨_, _, s1.at2.sub _ _ ho, hd, _, F1, m1, s1, r, ?_⟩)⟩
        rw [List.length_map, List.length_map]
        exact walk_Itx.mono (fun H' e => e _ _ ho) fun i H' x H'' _ _ y => yd_at (keys_dens ht) y)
end DL


namespace DL
open PySem PySem.Spec PySem.Calls PyProof.Rows L2 RZ

/-! ### new dicts -/
/-- the data of a dict, ready to be laid -/
structure DicX (K : Frag) (F : Hp) (xs : List (List Int × Addr × Value)) (ks : List (List Int)) (ds : List D) : Prop where
  ex : ∃ vs, xs.map (·.1) = ks ∧ (∀ x ∈ xs, SqT K F x.2.1 (x.1.map V.int)) ∧ Vals vs (xs.map (·.2.2)) ∧ Dens K F vs ds
theorem DicX.mono {K : Frag} {F F' : Hp} {xs : List (List Int × Addr × Value)} {ks : List (List Int)} {ds : List D} (h : DicX K F xs ks ds) (e : Ex F F') : DicX K F' xs ks ds := by
  obtain ⟨vs, h1, h2, h3, h4⟩ := h.ex
  exact ⟨vs, h1, fun x hx => e.sqT (h2 x hx), h3, h4.mono e⟩
theorem DicX.mden {K : Frag} {F : Hp} {p : Addr} {o : Obj} {xs : List (List Int × Addr × Value)} {ks : List (List Int)} {ds : List D} (h : DicX K F xs ks ds) (hd : DictObj p o xs) : MDen K F p (.dI ks ds) (objO p o) := by
  obtain ⟨vs, h1, h2, h3, h4⟩ := h.ex
  exact ⟨o, xs, vs, rfl, hd, h1, h2, h3, h4⟩
def RNew (R : D → Led → Prop) (m : Led) (ks : List (List Int)) (ds : List D) : Bool → Prop
  | false => R (.dI ks ds) m
  | true => ∀ p, R (.ref p) (m ++ [(p, .dI ks ds)])
def pairD (p : List Int × D) : D := .tup [keyD p.1, p.2]
section
variable {X : CD} {m : Led} {R : D → Led → Prop} {d : D} {b : Bool}
end
end DL


namespace DL
open PySem PySem.Spec PySem.Calls PyProof.Rows L2 RZ

/-! ### == of dicts whose keys are tuples of ints -/
def rowsH (f : Value → Value → Bool) (kb : List (List Int × Addr × Value)) (ka : List (List Int × Addr × Value)) : Bool := ka.all fun x => match atKey kb x.1 with
  | some y => f x.2.2 y.2
  | none => false
theorem at_of {xs : List (List Int × Addr × Value)} (nd : (xs.map (·.1)).Nodup) {j : Nat} {k : List Int} {p : Addr × Value} (h : xs[j]? = some (k, p)) : atKey xs k = some p := atKey_at nd h
theorem at_none {xs : List (List Int × Addr × Value)} {k : List Int} (h : ∀ (j : Nat) (p : Addr × Value), xs[j]? ≠ some (k, p)) : atKey xs k = none := by
  refine atKey_none fun hm => ?_
  obtain ⟨x, hx, e⟩ := List.mem_map.mp hm
  obtain ⟨j, hj⟩ := List.mem_iff_getElem?.mp hx
  exact h j x.2 (by rw [hj, ← e])
section
variable {prog : Program} {w : World} {A : Around} {E : Value → Shared → Prop} {s : Shared}
theorem samePairsH {nm : String} {a b : Addr} {ka kb : List (List Int × Addr × Value)} {f : Value → Value → Bool} {Q : Bool → Shared → Prop} (hu : A.units < cLine) (ha : (a == sysModules) = false) (hb : (b == sysModules) = false)
    (da : s.heap.DictOfH (kI prog w) a ka) (db : s.heap.DictOfH (kI prog w) b kb) (hits : ∀ x ∈ ka, ∀ y, atKey kb x.1 = some y → SeqAt.EqAt A s x.2.2 y.2 (f x.2.2 y.2)) (h : Q (ka.length == kb.length && rowsH f kb ka) s) :
    wpAny (model prog w) A (Builtin.Dict.samePairs nm a b) Q E s := by
  obtain ⟨oa, es, ep, hoa, _, hda, hka, hia, _⟩ := da
  obtain ⟨ob, es', ep', hob, _, hdb, hkb, hib, hnb⟩ := db
  have hla : es.size = ka.length := size_of_entries hka
  have hlb : es'.size = kb.length := size_of_entries hkb
  unfold Builtin.Dict.samePairs Builtin.Dict.showsAll
  rw [if_neg (show ¬ (a == sysModules) = true by rw [ha]; exact Bool.false_ne_true), if_neg (show ¬ (b == sysModules) = true by rw [hb]; exact Bool.false_ne_true)]
  refine wpAny_bind (wpAny_pure (wpAny_bind (wpAny_pure ?_)))
  refine wpAny_bind (wpAny_dictEntries hoa hda ?_)
  dsimp only
  refine wpAny_bind (wpAny_dictEntries hob hdb ?_)
  rw [← hla, ← hlb] at h
  by_cases hsz : es.size = es'.size
  case neg =>
    rw [if_pos (by simpa using hsz)]
    have hbf : (es.size == es'.size) = false := by simpa using hsz
    rw [hbf, Bool.false_and] at h
    exact wpAny_bind (wpAny_rule (wpAny_pure h))
  case pos =>
    have h' : Q (rowsH f kb ka) s := by simpa [hsz] using h
    rw [if_neg (by rw [hsz]; simp)]
    refine wpAny_bind (wpAny_dictEpoch hoa hda ?_)
    refine wpAny_bind ?_
    rw [Std.Legacy.Range.forIn_eq_forIn_range']
    simp only [Std.Legacy.Range.size, Nat.sub_zero, Nat.add_sub_cancel, Nat.div_one]
    refine wpAny_forIn_list _
      (fun rest q s' => s' = s ∧ q = (none, ()) ∧ ∃ i, rest = List.range' i (es.size - i) ∧ i ≤ es.size ∧ rowsH f kb ka = rowsH f kb (ka.drop i))
      _ ?_ ?_ _ _ ⟨rfl, rfl, 0, by simp, Nat.zero_le _, by simp⟩
    · rintro x rest q s' ⟨rfl, rfl, i, hr, hi, hpre⟩
      have hlt : i < es.size := by
        rcases Nat.lt_or_ge i es.size with h | h
        · exact h
        · rw [Nat.sub_eq_zero_of_le h] at hr; simp at hr
      obtain ⟨rfl, hrest⟩ : x = i ∧ rest = List.range' (i + 1) (es.size - (i + 1)) := by
        have e : es.size - i = (es.size - (i + 1)) + 1 := by omega
        rw [e, List.range'_succ] at hr
        injection hr with h1 h2
        exact ⟨h1, h2⟩
      refine wpAny_bind (wpAny_dictEntries hoa hda ?_)
      have hlt' : x < ka.length := by rw [← hla]; exact hlt
      have hee : es[x]? = some (entryOfKey (kI prog w) ka[x]) := by rw [entry_at hka x, List.getElem?_eq_getElem hlt']; rfl
      rw [hee]
      have hdrop : ka.drop x = ka[x] :: ka.drop (x + 1) := List.drop_eq_getElem_cons hlt'
      have hmem : ka[x] ∈ ka := List.getElem_mem hlt'
      rw [hdrop] at hpre
      have hrow : ∀ l, rowsH f kb (ka[x] :: l) = ((match atKey kb ka[x].1 with | some y => f ka[x].2.2 y.2 | none => false) && rowsH f kb l) := fun l => by simp only [rowsH, List.all_cons]
      show wpAny _ _ (holding [Value.ref ka[x].2.1, ka[x].2.2] _ >>= _) _ _ _
      refine wpAny_bind (wpAny_holding (wpAny_bind (wpAny_dictFind_heap (knd := kI prog w) hu (hia _ hmem) hob hdb hkb hib hnb ?_ ?_)))
      · intro hnone
        have hn := at_none hnone
        rw [hpre, hrow, hn, Bool.false_and] at h'
        refine wpAny_pure ?_
        show wpAny _ _ (if (!false) = true then _ else _) _ _ _
        rw [if_pos (by decide)]
        exact wpAny_pure (wpAny_pure h')
      · intro j p hj
        have hv' := at_of hnb hj
        have hjl : j < es'.size := by rw [hlb]; exact (List.getElem?_eq_some_iff.mp hj).1
        refine wpAny_bind (wpAny_dictEntries hob hdb ?_)
        have hee' : es'[j]? = some (entryOfKey (kI prog w) (ka[x].1, p)) := by rw [entry_at hkb j, hj]; rfl
        rw [hee']
        have he := hits _ hmem _ hv'
        refine wpAny_holding (he prog w _ _ ?_)
        rw [hrow, hv'] at hpre
        dsimp only at hpre
        cases e : f ka[x].2.2 p.2 with
        | false =>
          rw [e, Bool.false_and] at hpre
          rw [hpre] at h'
          show wpAny _ _ (if (!false) = true then _ else _) _ _ _
          rw [if_pos (by decide)]
          exact wpAny_pure (wpAny_pure h')
        | true =>
          rw [e, Bool.true_and] at hpre
          show wpAny _ _ (if (!true) = true then _ else _) _ _ _
          rw [if_neg (by decide)]
          refine wpAny_bind (wpAny_dictEpoch hoa hda ?_)
          rw [if_neg (by simp)]
          exact wpAny_pure ⟨rfl, rfl, x + 1, hrest, hlt, hpre⟩
    · rintro q s' ⟨rfl, rfl, i, hr, hi, hpre⟩
      have hin : i = es.size := by
        rcases Nat.lt_or_ge i es.size with h | h
        · have e : es.size - i = (es.size - (i + 1)) + 1 := by omega
          rw [e, List.range'_succ] at hr; exact nomatch hr
        · exact Nat.le_antisymm hi h
      refine wpAny_pure ?_
      rw [hin, hla, List.drop_length] at hpre
      have : rowsH f kb [] = true := rfl
      rw [hpre, this] at h'
      exact h'
theorem eqH {a b : Addr} {ka kb : List (List Int × Addr × Value)} {f : Value → Value → Bool} {Q : Value → Shared → Prop} (hu : A.units + 1 < cLine) (ha : (a == sysModules) = false) (hb : (b == sysModules) = false)
    (da : s.heap.DictOfH (kI prog w) a ka) (db : s.heap.DictOfH (kI prog w) b kb) (hits : ∀ x ∈ ka, ∀ y, atKey kb x.1 = some y → SeqAt.EqAt A.in1 s x.2.2 y.2 (f x.2.2 y.2)) (h : Q (.bool (ka.length == kb.length && rowsH f kb ka)) s) :
    wpAny (model prog w) A (compareOp .Eq (.ref a) (.ref b)) Q E s := by
  refine wpAny_richCompare_same_room (op := .Eq) da.typeIs db.typeIs PySem.F.slot_dict_eq (wpAny_call_entry PySem.F.slot_dict_eq da.typeIs PySem.F.entry_dict_eq ?_ (PySem.F.args_dict_eq_2 _ _)) (by omega)
  show wpAny _ _ (Builtin.Dict.dictSlotArgs "__eq__" ⟨[.ref a, .ref b], []⟩ >>= _) _ _ s
  refine wpAny_bind ?_
  unfold Builtin.Dict.dictSlotArgs
  refine wpAny_bind (wpAny_notOrdered_dict da.typeIs ?_)
  show wpAny _ _ (pure (Value.ref a, Value.ref b)) _ _ s
  refine wpAny_pure ?_
  refine wpAny_bind (wpAny_isInstance (T := "dict") db.typeIs PySem.F.sub_dict_dict ?_)
  simp only [Bool.not_true, Bool.false_eq_true, if_false]
  refine wpAny_bind (wpAny_pure (wpAny_bind (wpAny_pure ?_)))
  refine wpAny_bind (samePairsH (by show A.units + 1 < cLine; exact hu) ha hb da db hits ?_)
  refine wpAny_pure ⟨_, rfl, ?_, ?_⟩
  · exact fun x => nomatch x
  · simpa using h
theorem neH {a b : Addr} {ka kb : List (List Int × Addr × Value)} {f : Value → Value → Bool} {Q : Value → Shared → Prop} (hu : A.units + 1 < cLine) (ha : (a == sysModules) = false) (hb : (b == sysModules) = false)
    (da : s.heap.DictOfH (kI prog w) a ka) (db : s.heap.DictOfH (kI prog w) b kb) (hits : ∀ x ∈ ka, ∀ y, atKey kb x.1 = some y → SeqAt.EqAt A.in1 s x.2.2 y.2 (f x.2.2 y.2)) (h : Q (.bool (!(ka.length == kb.length && rowsH f kb ka))) s) :
    wpAny (model prog w) A (compareOp .NotEq (.ref a) (.ref b)) Q E s := by
  refine wpAny_richCompare_same_room (op := .NotEq) da.typeIs db.typeIs PySem.F.slot_dict_ne (wpAny_call_entry PySem.F.slot_dict_ne da.typeIs PySem.F.entry_dict_ne ?_ (PySem.F.args_dict_ne_2 _ _)) (by omega)
  show wpAny _ _ (Builtin.Dict.dictSlotArgs "__ne__" ⟨[.ref a, .ref b], []⟩ >>= _) _ _ s
  refine wpAny_bind ?_
  unfold Builtin.Dict.dictSlotArgs
  refine wpAny_bind (wpAny_notOrdered_dict da.typeIs ?_)
  show wpAny _ _ (pure (Value.ref a, Value.ref b)) _ _ s
  refine wpAny_pure ?_
  refine wpAny_bind (wpAny_isInstance (T := "dict") db.typeIs PySem.F.sub_dict_dict ?_)
  simp only [Bool.not_true, Bool.false_eq_true, if_false]
  refine wpAny_bind (wpAny_pure (wpAny_bind (wpAny_pure ?_)))
  refine wpAny_bind (samePairsH (by show A.units + 1 < cLine; exact hu) ha hb da db hits ?_)
  refine wpAny_pure ⟨_, rfl, ?_, ?_⟩
  · exact fun x => nomatch x
  · simpa using h
end
end DL


namespace DL
open PySem PySem.Spec PySem.Calls PyProof.Rows L2 RZ

/-! ### dicts compared, over data -/
def lookD : List (List Int) → List D → List Int → Option D
  | k :: ks, d :: ds, x => if k = x then some d else lookD ks ds x
  | _, _, _ => none
def rowsD (ls : List (List Int)) (es : List D) : List (List Int) → List D → Bool
  | k :: ks, d :: ds => (match lookD ls es k with | some e => PyData.eqv (py d) (py e) | none => false) && rowsD ls es ks ds
  | _, _ => true
def eqDic (ks : List (List Int)) (ds : List D) (ls : List (List Int)) (es : List D) : Bool := ks.length == ls.length && rowsD ls es ks ds
/-- the entries' values read as the data -/
inductive Rds (h : Heap) : List (List Int × Addr × Value) → List (List Int) → List D → Prop
  | nil : Rds h [] [] []
  | cons {x : List Int × Addr × Value} {xs : List (List Int × Addr × Value)} {ks : List (List Int)} {d : D} {ds : List D} {as : List Addr} : Reads h x.2.2 (py d) as → (py d).plain = true → (py d).depth ≤ 20 → Rds h xs ks ds → Rds h (x :: xs) (x.1 :: ks) (d :: ds)
theorem rds_of {X : CD} {pins : List (Addr × Obj)} {σ : L2.St} {H : Hp} {s : Shared} (I : Inv X pins σ H s) : ∀ {xs : List (List Int × Addr × Value)} {vs : List V} {ds : List D}, (∀ d ∈ ds, Sh 20 d) → DpAll X.K H vs (pys ds) → Vals vs (xs.map (·.2.2)) → Rds s.heap xs (xs.map (·.1)) ds
  | [], _, [], _, _, .nil => .nil
  | [], _, d :: ds, _, h, r => by cases h; cases r
  | x :: xs, _, [], _, h, r => by cases h; cases r
  | x :: xs, _, d :: ds, hs, .cons h1 h2, .cons r1 r2 => by
    obtain ⟨as, rd⟩ := Dp.reads I _ _ _ h1 r1
    have ok := (hs d (by simp)).ok
    exact .cons rd ok.1 ok.2 (rds_of I (fun e he => hs e (by simp [he])) h2 r2)
theorem Rds.sm {h : Heap} {k : List Int} : ∀ {xs : List (List Int × Addr × Value)} {ks : List (List Int)} {ds : List D}, Rds h xs ks ds → ∀ {y : Addr × Value}, atKey xs k = some y → ∃ d as, lookD ks ds k = some d ∧ Reads h y.2 (py d) as ∧ (py d).plain = true ∧ (py d).depth ≤ 20
  | _, _, _, .nil, y, e => by simp [atKey] at e
  | x :: xs, _, _, .cons (ks := ks) (d := d) (ds := ds) h1 h2 h3 hs, y, e => by
    by_cases q : x.1 = k
    · have : x.2 = y := by simpa [atKey, q] using e
      subst this
      exact ⟨d, _, by simp [lookD, q], h1, h2, h3⟩
    · have e' : atKey xs k = .some y := by simpa [atKey, q] using e
      obtain ⟨d', as', g1, g2⟩ := hs.sm e'
      exact ⟨d', as', by simp [lookD, q, g1], g2⟩
theorem Rds.nn {h : Heap} {k : List Int} : ∀ {xs : List (List Int × Addr × Value)} {ks : List (List Int)} {ds : List D}, Rds h xs ks ds → atKey xs k = none → lookD ks ds k = none
  | _, _, _, .nil, e => rfl
  | x :: xs, _, _, .cons (ks := ks) (d := d) (ds := ds) h1 h2 h3 hs, e => by
    by_cases q : x.1 = k
    · simp [atKey, q] at e
    · have e' : atKey xs k = Option.none := by simpa [atKey, q] using e
      have := hs.nn e'
      simp [lookD, q, this]
theorem Rds.rows {h : Heap} {kb : List (List Int × Addr × Value)} {ls : List (List Int)} {es : List D} (hb : Rds h kb ls es) : ∀ {ka : List (List Int × Addr × Value)} {ks : List (List Int)} {ds : List D}, Rds h ka ks ds →
    rowsH (fun u v => PyData.eqv (SeqAt.readOf h u) (SeqAt.readOf h v)) kb ka = rowsD ls es ks ds
  | _, _, _, .nil => rfl
  | x :: ka, _, _, .cons (ks := ks) (d := d) (ds := ds) h1 h2 h3 hs => by
    have ih := hb.rows hs
    have e1 : rowsH (fun u v => PyData.eqv (SeqAt.readOf h u) (SeqAt.readOf h v)) kb (x :: ka) = ((match atKey kb x.1 with | some y => PyData.eqv (SeqAt.readOf h x.2.2) (SeqAt.readOf h y.2) | none => false) && rowsH (fun u v => PyData.eqv (SeqAt.readOf h u) (SeqAt.readOf h v)) kb ka) := by simp only [rowsH, List.all_cons] <;> rfl
    rw [e1, ih]
    simp only [rowsD]
    congr 1
    cases e : atKey kb x.1 with
    | none => rw [hb.nn e]
    | some y =>
      obtain ⟨d', as', g1, g2, g3, _⟩ := hb.sm e
      rw [g1]
      simp only [SeqAt.readOf_plain h2 h1, SeqAt.readOf_plain g3 g2]
theorem Rds.len {h : Heap} : ∀ {xs : List (List Int × Addr × Value)} {ks : List (List Int)} {ds : List D}, Rds h xs ks ds → xs.length = ks.length
  | _, _, _, .nil => rfl
  | _, _, _, .cons _ _ _ hs => by simp [hs.len]
theorem Rds.mem {h : Heap} : ∀ {xs : List (List Int × Addr × Value)} {ks : List (List Int)} {ds : List D}, Rds h xs ks ds → ∀ {x}, x ∈ xs → ∃ d as, Reads h x.2.2 (py d) as ∧ (py d).plain = true ∧ (py d).depth ≤ 20
  | _, _, _, .nil, x, hx => by simp at hx
  | _, _, _, .cons h1 h2 h3 hs, x, hx => by
    rcases List.mem_cons.mp hx with rfl | hx
    · exact ⟨_, _, h1, h2, h3⟩
    · exact hs.mem hx
theorem Rds.hits {kb ka : List (List Int × Addr × Value)} {s : Shared} {ls ks : List (List Int)} {es ds : List D} {A : Around} (hu : A.units + 30 < cLine) (hb : Rds s.heap kb ls es) (ha : Rds s.heap ka ks ds) : ∀ x ∈ ka, ∀ y, atKey kb x.1 = some y → SeqAt.EqAt A s x.2.2 y.2 (PyData.eqv (SeqAt.readOf s.heap x.2.2) (SeqAt.readOf s.heap y.2)) := fun x hx y hy => by
  obtain ⟨d, as, h1, h2, h3⟩ := ha.mem hx
  obtain ⟨d', as', _, g2, g3, g4⟩ := hb.sm hy
  rw [SeqAt.readOf_plain h2 h1, SeqAt.readOf_plain g3 g2]
  have : min (py d).depth (py d').depth ≤ (py d).depth := Nat.min_le_left _ _
  exact SeqAt.eqAt_plain _ _ A s _ _ as as' h1 g2 h2 g3 (by omega)
theorem Dens.dpAll {K : Frag} {F H : Hp} {m : Led} (at_ : At K F m H) {vs : List V} {ds : List D} (h : ∀ d ∈ ds, Sh 20 d) (q : Dens K F vs ds) : DpAll K H vs (pys ds) := DWs.dp at_ 20 (DWs.now ds) h q
section
variable {X : CD} {m : Led} {R : D → Led → Prop} {d d1 d2 : D} {ks ls : List (List Int)} {ds es : List D} {b : Bool}
theorem o_eqDic (hu : X.A.units + 64 < cLine) (h1 : DicV m d1 ks ds) (h2 : DicV m d2 ls es) (s1 : ∀ d ∈ ds, Sh 20 d) (s2 : ∀ d ∈ es, Sh 20 d) (k : R (.bl (eqDic ks ds ls es)) m) : OX X (compareOp .Eq) d1 d2 m R := .mk fun F σ H x y pins s v u q1 q2 at_ I rx ry => by
  obtain ⟨p, rfl, ⟨o, xs, vs, a1, a2, a3, a4, a5, a6⟩⟩ := h1.read at_.toAt q1
  obtain ⟨q, rfl, ⟨o', ys, ws, b1, b2, b3, b4, b5, b6⟩⟩ := h2.read at_.toAt q2
  cases rx
  cases ry
  have ra := rds_of I s1 (Dens.dpAll at_.toAt s1 a6) a5
  have rb := rds_of I s2 (Dens.dpAll at_.toAt s2 b6) b5
  rw [a3] at ra
  rw [b3] at rb
  refine eqH (f := fun u v => PyData.eqv (SeqAt.readOf s.heap u) (SeqAt.readOf s.heap v)) (by omega) a2.sys b2.sys (dictI I a1 a2 a4) (dictI I b1 b2 b4) (rb.hits (A := X.A.in1) (by show X.A.units + 1 + 30 < cLine; omega) ra) ?_
  rw [rb.rows ra, ra.len, rb.len]
  exact ⟨.bl _, H, I, rfl, PQ.now at_.toAt (.bl _) k⟩
theorem o_neDic (hu : X.A.units + 64 < cLine) (h1 : DicV m d1 ks ds) (h2 : DicV m d2 ls es) (s1 : ∀ d ∈ ds, Sh 20 d) (s2 : ∀ d ∈ es, Sh 20 d) (k : R (.bl (!eqDic ks ds ls es)) m) : OX X (compareOp .NotEq) d1 d2 m R := .mk fun F σ H x y pins s v u q1 q2 at_ I rx ry => by
  obtain ⟨p, rfl, ⟨o, xs, vs, a1, a2, a3, a4, a5, a6⟩⟩ := h1.read at_.toAt q1
  obtain ⟨q, rfl, ⟨o', ys, ws, b1, b2, b3, b4, b5, b6⟩⟩ := h2.read at_.toAt q2
  cases rx
  cases ry
  have ra := rds_of I s1 (Dens.dpAll at_.toAt s1 a6) a5
  have rb := rds_of I s2 (Dens.dpAll at_.toAt s2 b6) b5
  rw [a3] at ra
  rw [b3] at rb
  refine neH (f := fun u v => PyData.eqv (SeqAt.readOf s.heap u) (SeqAt.readOf s.heap v)) (by omega) a2.sys b2.sys (dictI I a1 a2 a4) (dictI I b1 b2 b4) (rb.hits (A := X.A.in1) (by show X.A.units + 1 + 30 < cLine; omega) ra) ?_
  rw [rb.rows ra, ra.len, rb.len]
  exact ⟨.bl _, H, I, rfl, PQ.now at_.toAt (.bl _) k⟩
/-! d[k] = v -/
theorem putAt_set {xs : List (List Int × Addr × Value)} (nd : (xs.map (·.1)).Nodup) {i : Nat} {x : List Int × Addr × Value} {u : Value} (h : xs[i]? = some x) : xs.map (putAt x.1 u) = xs.set i (x.1, x.2.1, u) := by
  apply List.ext_getElem?
  intro j
  rw [List.getElem?_map]
  by_cases hj : i = j
  · subst hj
    rw [h, List.getElem?_set_self (List.getElem?_eq_some_iff.mp h).1]
    simp [putAt]
  · rw [List.getElem?_set_ne hj]
    cases e : xs[j]? with
    | none => rfl
    | some y =>
      have ne : ¬ y.1 = x.1 := fun q => by
        have h1 : (xs.map (·.1))[i]? = some x.1 := by rw [List.getElem?_map, h]; rfl
        have h2 : (xs.map (·.1))[j]? = some x.1 := by rw [List.getElem?_map, e, ← q]; rfl
        exact hj ((List.getElem?_inj (List.getElem?_eq_some_iff.mp h1).1 nd).mp (h1.trans h2.symm))
      simp [putAt, ne]
theorem vals_set : ∀ {vs : List V} {us : List Value} {i : Nat} {v : V} {u : Value}, Vals vs us → RelV v u → Vals (vs.set i v) (us.set i u)
  | _, _, _, _, _, .nil, _ => .nil
  | _, _, 0, _, _, .cons _ t, r => .cons r t
  | _, _, i + 1, _, _, .cons q t, r => .cons q (vals_set t r)
theorem DicX.old {K : Frag} {F : Hp} {xs : List (List Int × Addr × Value)} {i : Nat} {k : List Int} {v : V} {u : Value} {d : D} (h : DicX K F xs ks ds) (nd : (xs.map (·.1)).Nodup) (hk : ks[i]? = some k) (rv : RelV v u) (q : Den K F v d) (c : Addr) : DicX K F (storedH xs k c u) ks (ds.set i d) := by
  obtain ⟨vs, rfl, h2, h3, h4⟩ := h.ex
  rw [List.getElem?_map] at hk
  cases e : xs[i]? with
  | none => rw [e] at hk; cases hk
  | some x =>
    rw [e] at hk
    obtain rfl : x.1 = k := Option.some.inj hk
    rw [storedH_old (atKey_at nd e), putAt_set nd e]
    refine ⟨vs.set i v, ?_, fun y hy => ?_, ?_, h4.set i q⟩
    · rw [List.map_set]
      apply List.ext_getElem?
      intro j
      by_cases hj : i = j
      · subst hj
        rw [List.getElem?_set_self (by simpa using (List.getElem?_eq_some_iff.mp e).1), List.getElem?_map, e]; rfl
      · rw [List.getElem?_set_ne hj]
    · rcases List.mem_or_eq_of_mem_set hy with hy | rfl
      · exact h2 y hy
      · exact h2 x (List.mem_of_getElem? e)
    · rw [List.map_set]
      exact vals_set h3 rv
theorem DicX.new {K : Frag} {F : Hp} {xs : List (List Int × Addr × Value)} {k : List Int} {v : V} {u : Value} {c : Addr} {d : D} (h : DicX K F xs ks ds) (hk : k ∉ ks) (sq : SqT K F c (k.map V.int)) (rv : RelV v u) (q : Den K F v d) : DicX K F (storedH xs k c u) (ks ++ [k]) (ds ++ [d]) := by
  obtain ⟨vs, rfl, h2, h3, h4⟩ := h.ex
  rw [storedH_new (atKey_none hk)]
  refine ⟨vs ++ [v], by simp, fun y hy => ?_, ?_, h4.snoc q⟩
  · rcases List.mem_append.mp hy with hy | hy
    · exact h2 y hy
    · obtain rfl : y = (k, c, u) := by simpa using hy
      exact sq
  · rw [List.map_append]
    exact h3.append (.cons rv .nil)
def tSetI : TSet := fun o ix v H Q => ∃ (a c : Addr) (ob : Obj) (xs : List (List Int × Addr × Value)) (k : List Int), o = .ref a ∧ ix = .ref c ∧ H a = some (objO a ob) ∧ DictObj a ob xs ∧ xs.length < sizeLine ∧ Q H
theorem set_dict {K : Frag} (hu : X.A.units + 64 < cLine) : PSet X fun o ix v H Q => ∃ (a c : Addr) (ob : Obj) (xs : List (List Int × Addr × Value)) (k : List Int), o = .ref a ∧ ix = .ref c ∧ H a = some (objO a ob) ∧ DictObj a ob xs ∧ (∀ x ∈ xs, SqT X.K H x.2.1 (x.1.map V.int)) ∧ SqT X.K H c (k.map V.int) ∧ xs.length < sizeLine ∧
    ∀ u ob', RelV v u → DictObj a ob' (storedH xs k c u) → Q (upd H a (objO a ob')) := by
  intro pins s σ H o i v ov iv u Q I r1 r2 r3 ⟨a, c, ob, xs, k, e1, e2, h1, h2, h3, h4, hl, q⟩
  subst e1 e2
  cases r1
  cases r2
  refine wpAny_setItem_heap (hsz := h2.len) (roomI hu) (keyI I h4) (dictI I h1 h2 h3) fun h' hd hs => ?_
  obtain ⟨ob', ho', dobj⟩ := dictObj_of hd (by have := storedH_length xs k c u; omega) h2.sys
  exact ⟨_, I.write (x := a) (e := a) (by rw [h1]; exact True.intro) (.inl rfl) (fun b ub hb e => (hs.2 b hb).trans e) ⟨_, ho'⟩ (objO_ok ho'), q u ob' r3 dobj⟩
theorem st_dict {a : Addr} {n : Nat} {k : List Int} {d : D} {R : Led → Prop} (hu : X.A.units + 64 < cLine) (hm : m[n]? = some (a, .dI ks ds)) (hl : ks.length < 100000)
    (kk : (∃ i, ks[i]? = some k ∧ R (m.set n (a, .dI ks (ds.set i d)))) ∨ (k ∉ ks ∧ R (m.set n (a, .dI (ks ++ [k]) (ds ++ [d]))))) : StX X (.ref a) (keyD k) d m R := .mk ⟨_, set_dict (K := X.K) hu, fun F H o ix v q1 q2 q3 at_ => by
  cases q1
  obtain ⟨c, rfl, sq⟩ := key_read at_.toAt q2
  obtain ⟨hh, ⟨ob, xs, vs, rfl, h1, h2, h3, h4, h5⟩, e⟩ := at_.get hm
  have hlx : xs.length = ks.length := by rw [← h2, List.length_map]
  refine ⟨a, c, ob, xs, k, rfl, rfl, e, h1, fun x hx => at_.sub.sqT (h3 x hx), sq, lenLt (by rw [hlx]; exact hl), fun u ob' ru dobj => ?_⟩
  have dx : DicX X.K F xs ks ds := ⟨vs, h2, h3, h4, h5⟩
  have sqF : SqT X.K F c (k.map V.int) := by
    cases q2 with
    | tup h hs => rw [hs.ints] at h; exact h
  rcases kk with ⟨i, hi, r⟩ | ⟨hk, r⟩
  · exact ⟨F, _, Step.write (o' := .dI ks (ds.set i d)) at_.toAt hm ((dx.old h1.nod hi ru q3 c).mden dobj), r⟩
  · exact ⟨F, _, Step.write (o' := .dI (ks ++ [k]) (ds ++ [d])) at_.toAt hm ((dx.new hk sqF ru q3).mden dobj), r⟩⟩
/-! isinstance -/
end
end DL


namespace DL
open PySem PySem.Spec PySem.Calls PyProof.Rows L2 RZ

/-! ### {k: v for ..}: keys that are tuples of ints -/
abbrev eD : Obj := { cls := .type "dict", data := .dict #[] }
/-- the turn's end: what is put, what stands then -/
def DcPut (K : Frag) (p : Addr) (y z : V) (H : Hp) (Nx : Hp → Prop) : Prop := ∃ (c : Addr) (k : List Int) (o : Obj) (xs : List (List Int × Addr × Value)), y = .ref c ∧ SqT K H c (k.map V.int) ∧ H p = some (objO p o) ∧ DictObj p o xs ∧ (∀ x ∈ xs, SqT K H x.2.1 (x.1.map V.int)) ∧ xs.length < sizeLine ∧
  ∀ u o', RelV z u → DictObj p o' (storedH xs k c u) → Nx (upd H p (objO p o'))
def tDcI (K : Frag) (wi : TI) (g : TG) (tt : TT) (tk tv : TE) (vs : List Nat) : TE := fun σ H Q => wi σ H fun J H1 => ∀ p o, H1 p = none → DictObj p o [] → ∃ W : Nat → Nat → Hp → Prop, (∃ m, W 0 m (upd H1 p (objO p o))) ∧ ∀ i m H, W i m H →
  (J.stop i H ∧ Q (.ref p) H) ∨ (J.go i H ∧ ∃ Nx : Hp → Prop, (∀ H', Nx H' → ∃ m', m' < m ∧ W (i + 1) m' H') ∧ ∀ x H', J.yld i H x H' → g x (wipe σ vs) H' fun σ2 H2 => wipe σ2 vs = wipe σ vs ∧ tt σ2 H2 fun b H3 =>
    if b = true then tk σ2 H3 fun y H4 => tv σ2 H4 fun z H5 => DcPut K p y z H5 Nx else Nx H3)
end DL


namespace DL
open PySem PySem.Spec PySem.Calls PyProof.Rows L2 RZ

/-! ### dict comprehensions over data -/
/-- what the put asks over data -/
def PutD (ks : List (List Int)) (vs : List D) (k v : D) (P : List (List Int) → List D → Prop) : Prop := ∃ kk, k = keyD kk ∧ ks.length < 100000 ∧ ((kk ∉ ks ∧ P (ks ++ [kk]) (vs ++ [v])) ∨ ∃ n, ks[n]? = some kk ∧ P ks (vs.set n v))
def CompD (X : CD) (scope : Scope) (ifs : List Expr) (kx vx : Expr) (y : Str) (j : Nat) (ρ : Rn) (R : List (List Int) → List D → Led → Prop) (ds : List D) (m1 : Led) : Prop := ∃ I : Nat → List (List Int) → List D → Led → Prop, I 0 [] [] m1 ∧
  (∀ i d ks vs m', ds[i]? = some d → I i ks vs m' → ∃ ρ2, SetAt ρ j y d ρ2 ∧ ∀ (s : Shared) (H0 : Hp) (C : Addr) (cl : List (Str × Addr)) (fp : List Addr),
    match ifs with
    | [] => EX (X.blk s H0 scope (compEnvC scope cl C X.env) fp) kx ρ2 m' fun k m2 => ∀ (s : Shared) (H0 : Hp) (C : Addr) (cl : List (Str × Addr)) (fp : List Addr), EX (X.blk s H0 scope (compEnvC scope cl C X.env) fp) vx ρ2 m2 fun v m3 => PutD ks vs k v fun ks vs => I (i + 1) ks vs m3
    | [c] => TX (X.blk s H0 scope (compEnvC scope cl C X.env) fp) c ρ2 m' fun b m1 => (b = true → ∀ (s : Shared) (H0 : Hp) (C : Addr) (cl : List (Str × Addr)) (fp : List Addr), EX (X.blk s H0 scope (compEnvC scope cl C X.env) fp) kx ρ2 m1 fun k m2 => ∀ (s : Shared) (H0 : Hp) (C : Addr) (cl : List (Str × Addr)) (fp : List Addr), EX (X.blk s H0 scope (compEnvC scope cl C X.env) fp) vx ρ2 m2 fun v m3 => PutD ks vs k v fun ks vs => I (i + 1) ks vs m3) ∧ (b = false → I (i + 1) ks vs m1)
    | _ => False) ∧ ∀ ks vs m', I ds.length ks vs m' → R ks vs m'
section
variable {X : CD} {kx vx it : Expr} {scope : Scope} {ρ : Rn} {m : Led} {R : D → Led → Prop} {pos py : Pos} {y : Str} {j : Nat}
end
end DL


namespace DL
open PySem PySem.Spec PySem.Calls PyProof.Rows L2 RZ

/-! ### dict(d) -/
section
variable {X : CD} {m : Led} {R : D → Led → Prop} {d : D} {ks : List (List Int)} {ds : List D} {b : Bool}
/-- a dict's entries over the frozen part -/
theorem DicV.readF {K : Frag} {F H : Hp} {v : V} (h : DicV m d ks ds) (a : At K F m H) (q : Den K F v d) : ∃ p o xs, v = .ref p ∧ H p = some (objO p o) ∧ DictObj p o xs ∧ DicX K F xs ks ds := by
  rcases h with rfl | ⟨i, p, rfl, hi⟩
  · cases q with
    | dI h ho hk ht hv hs => exact ⟨_, _, _, rfl, a.sub _ _ h, ho, ⟨_, hk, ht, hv, hs⟩⟩
  · cases q
    obtain ⟨hh, ⟨o, xs, vs, rfl, ho, hk, ht, hv, hs⟩, e⟩ := a.get hi
    exact ⟨p, o, xs, rfl, e, ho, ⟨_, hk, ht, hv, hs⟩⟩
/-! list(d) -/
def RNewL (R : D → Led → Prop) (m : Led) (ds : List D) : Bool → Prop
  | false => R (.lst ds) m
  | true => ∀ p, R (.ref p) (m ++ [(p, .lst ds)])
theorem new_lstB {K : Frag} {F H : Hp} {p : Addr} {xs : List V} {ds : List D} {b : Bool} (at_ : At K F m H) (hp : H p = none) (hs : Dens K F xs ds) (k : RNewL R m ds b) : PQ K F m H R (.ref p) (upd H p (.lst xs)) := by
  cases b with
  | false => exact new_lst at_ hp hs k
  | true => exact new_lstM at_ hp hs k
theorem b_listD (hc : X.calm = true) (h : DicV m d ks ds) (k : RNewL R m (ks.map keyD) b) : BX X (.type "list") [d] m R := .mk fun F σ H xs pins s us qs at_ I rs => by
  obtain ⟨v, rfl, q⟩ := qs.one
  obtain ⟨u, rfl, rx⟩ := vals1 rs
  obtain ⟨p, o, xs, rfl, e1, dobj, dx⟩ := h.readF at_.toAt q
  cases rx
  obtain ⟨vs, rfl, f2, f3, f4⟩ := dx.ex
  obtain ⟨ep, hdt⟩ := dobj.dat
  refine PySem.W.kdl_call (kdl_raw dobj.sys dobj.ex hdt) (I.ok.hd hc) (objO_get I.hok e1) (by simp; exact dobj.len) fun h' tk acc' c' kp e it => ?_
  have ea : acc'.toList = (xs.map fun x => x.2.1).map Value.ref := by
    have hl : acc'.toList.length = xs.length := by rw [Array.length_toList, it.1]; simp
    apply List.ext_getElem?
    intro j
    rw [List.getElem?_map, List.getElem?_map]
    cases hj : acc'.toList[j]? with
    | none =>
      have h1 := List.getElem?_eq_none_iff.mp hj
      rw [List.getElem?_eq_none (by omega)]
      rfl
    | some v =>
      obtain ⟨en, hen, hv⟩ := it.2 j v (by rw [← Array.getElem?_toList]; exact hj)
      have hen' : (xs.map entI)[j]? = some en := by simpa using hen
      rw [List.getElem?_map] at hen'
      cases hb : xs[j]? with
      | none => rw [hb] at hen'; cases hen'
      | some y =>
        rw [hb] at hen'
        obtain rfl : entI y = en := Option.some.inj hen'
        rw [hv]
        rfl
  have rv : Vals (xs.map fun y => V.ref y.2.1) acc'.toList := by
    rw [ea]
    have := vals_refs (xs.map fun x => x.2.1)
    rwa [List.map_map] at this
  refine ⟨.ref s.heap.objs.size, _, I.laid (t' := tk) (o := .lst (xs.map fun y => V.ref y.2.1)) kp (Nat.le_refl _) ?_, rfl, new_lstB at_.toAt (I.hok.fresh (Nat.le_refl _)) (keys_dens f2) k⟩
  exact ⟨by rw [List.length_map]; exact dobj.len, acc'.toList, c', rv, by rw [Array.toArray_toList]; exact e⟩
end
end DL


namespace DL
open PySem PySem.Spec PySem.Calls PyProof.Rows L2 RZ

/-! ### a dict of the ledger read as a frozen one for a while -/
mutual
def noD : D → Bool
  | .lst xs => noDs xs
  | .tup xs => noDs xs
  | .lsk xs => noDs xs
  | .dI _ _ => false
  | .dK _ vs => noDs vs
  | .dO _ _ _ _ => false
  | .obj _ _ vs => noDs vs
  | .exc _ _ _ x => noD x
  | _ => true
def noDs : List D → Bool
  | [] => true
  | x :: xs => noD x && noDs xs
end
def noDM : MO → Bool
  | .lst ds => noDs ds
  | .ins _ _ _ ds => noDs ds
  | .own _ => true
  | .dI _ ds => noDs ds
  | .dK _ ds => noDs ds
  | .dO _ _ _ _ => false
def noDL (m : Led) : Prop := ∀ p ∈ m, noDM p.2 = true
def cut (F : Hp) (a : Addr) : Hp := fun b => if b = a then none else F b
/-- the other part is the same but for things told by their object -/
def Nx (F F' : Hp) : Prop := ∀ b o, F b = some o → (∀ φ, o ≠ .ext φ) → F' b = some o
section
variable {K : Frag} {F F' : Hp}
theorem Nx.rd {a : Addr} {u : HO} (n : Nx F F') (hu : ∀ φ, u ≠ .ext φ) (h : Rd F a u) : Rd F' a u := by
  rcases h with h | ⟨o, h⟩
  · exact .inl (n a _ h hu)
  · exact .inr ⟨o, n a _ h (fun _ z => nomatch z)⟩
theorem Nx.sqT {a : Addr} {xs : List V} (n : Nx F F') (h : SqT K F a xs) : SqT K F' a xs := h.elim (fun h => .inl (n.rd (fun _ z => nomatch z) h)) .inr
theorem Nx.sqL {a : Addr} {xs : List V} (n : Nx F F') (h : SqL K F a xs) : SqL K F' a xs := h.elim (fun h => .inl (n.rd (fun _ z => nomatch z) h)) .inr
theorem Nx.lst {a : Addr} {xs : List V} (n : Nx F F') (h : Rd F a (.lst xs)) : Rd F' a (.lst xs) := n.rd (fun _ z => nomatch z) h
theorem Nx.dK {a : Addr} {xs : List (Key × V)} (n : Nx F F') (h : Rd F a (.dK xs)) : Rd F' a (.dK xs) := n.rd (fun _ z => nomatch z) h
theorem Nx.ins {a C dx : Addr} {fs : List (Str × V)} (n : Nx F F') (h : F a = some (.ins C dx fs)) : F' a = some (.ins C dx fs) := n _ _ h (fun _ z => nomatch z)
theorem Nx.xd {a : Addr} {fs : List (Str × V)} (n : Nx F F') (h : F a = some (.xd fs)) : F' a = some (.xd fs) := n _ _ h (fun _ z => nomatch z)
theorem noD_dI {ks : List (List Int)} {ds : List D} {P : Prop} (h : noD (.dI ks ds) = true) : P := by simp [noD] at h
theorem noD_dO {ks : List (List Int)} {ds : List D} {k v : D} {P : Prop} (h : noD (.dO ks ds k v) = true) : P := by simp [noD] at h
theorem noD_lst {ds : List D} (h : noD (.lst ds) = true) : noDs ds = true := by simpa only [noD] using h
theorem noD_tup {ds : List D} (h : noD (.tup ds) = true) : noDs ds = true := by simpa only [noD] using h
theorem noD_lsk {ds : List D} (h : noD (.lsk ds) = true) : noDs ds = true := by simpa only [noD] using h
theorem noD_dK {ks : List Key} {ds : List D} (h : noD (.dK ks ds) = true) : noDs ds = true := by simpa only [noD] using h
theorem noD_obj {n : Str} {ks : List Str} {ds : List D} (h : noD (.obj n ks ds) = true) : noDs ds = true := by simpa only [noD] using h
theorem noD_exc {a b : Addr} {n : Str} {d : D} (h : noD (.exc a b n d) = true) : noD d = true := by simpa only [noD] using h
theorem noDs_cons {d : D} {ds : List D} (h : noDs (d :: ds) = true) : noD d = true ∧ noDs ds = true := by simpa only [noDs, Bool.and_eq_true] using h
mutual
theorem Den.nx (n : Nx F F') : ∀ {v : V} {d : D}, Den K F v d → noD d = true → Den K F' v d
  | _, _, .non, _ => .non
  | _, _, .bl b, _ => .bl b
  | _, _, .int i, _ => .int i
  | _, _, .str x, _ => .str x
  | _, _, .ty t, _ => .ty t
  | _, _, .lst h hs, e => .lst (n.lst h) (Dens.nx n hs (noD_lst e))
  | _, _, .tup h hs, e => .tup (n.sqT h) (Dens.nx n hs (noD_tup e))
  | _, _, .lsk h hs, e => .lsk (n.sqL h) (Dens.nx n hs (noD_lsk e))
  | _, _, .dI h ho hk ht hv hs, e => noD_dI e
  | _, _, .dK h hk hs, e => .dK (n.dK h) hk (Dens.nx n hs (noD_dK e))
  | _, _, .obj h hn hk hs, e => .obj (n.ins h) hn hk (Dens.nx n hs (noD_obj e))
  | _, _, .ref a, _ => .ref a
  | _, _, .exc h q, e => .exc (n.xd h) (Den.nx n q (noD_exc e))
  | _, _, .cls h, _ => .cls h
  | _, _, .dO .., e => noD_dO e
theorem Dens.nx (n : Nx F F') : ∀ {vs : List V} {ds : List D}, Dens K F vs ds → noDs ds = true → Dens K F' vs ds
  | _, _, .nil, _ => .nil
  | _, _, .cons h hs, e => .cons (Den.nx n h (noDs_cons e).1) (Dens.nx n hs (noDs_cons e).2)
end
theorem MDen.nx {a : Addr} (n : Nx F F') : ∀ {o : MO} {h : HO}, MDen K F a o h → noDM o = true → MDen K F' a o h
  | .lst _, _, ⟨xs, q, hs⟩, e => ⟨xs, q, hs.nx n e⟩
  | .ins .., _, ⟨C, fs, q, nm, k, hs⟩, e => ⟨C, fs, q, nm, k, hs.nx n e⟩
  | .own _, _, q, _ => q
  | .dI .., _, ⟨o, xs, vs, q, d, k, t, v, hs⟩, e => ⟨o, xs, vs, q, d, k, fun x hx => n.sqT (t x hx), v, hs.nx n e⟩
  | .dK .., _, ⟨fs, q, k, hs⟩, e => ⟨fs, q, k, hs.nx n e⟩
  | .dO .., _, _, e => by simp [noDM] at e
variable {H : Hp} {m : Led}
/-- anything of the ledger frozen -/
theorem Step.frz {i : Nat} {p : Addr} {o : MO} (a : At K F m H) (h : m[i]? = some (p, o)) : ∃ hh, MDen K F p o hh ∧ F p = none ∧ H p = some hh ∧ Step K F m H (upd F p hh) (m.eraseIdx i) H := by
  obtain ⟨hh, md, e⟩ := a.get h
  have hin : (p, o) ∈ m := List.mem_of_getElem? h
  have hF : F p = none := a.dis _ hin
  have sl : (m.eraseIdx i).Sublist m := List.eraseIdx_sublist ..
  refine ⟨hh, md, hF, e, ⟨⟨fun x u q => ?_, fun q hq => ?_, fun q hq => ?_, a.nod.sublist (sl.map _)⟩, Ex.new hF, fun _ _ e _ => e, fun x u q n => ?_, fun x hx => .inl ((sl.map _).subset hx)⟩⟩
  · by_cases hx : x = p
    · subst hx; rw [upd_same] at q; cases q; exact e
    · rw [upd_ne hx] at q; exact a.sub x u q
  · obtain ⟨hh, e1, e2⟩ := a.led q (sl.subset hq)
    exact ⟨hh, e1.mono (Ex.new hF), e2⟩
  · have : q.1 ≠ p := fun z => by
      obtain ⟨j, hj⟩ := List.mem_iff_getElem?.mp hq
      have k2 : (keys m)[i]? = some p := by rw [List.getElem?_map, h]; rfl
      rw [List.getElem?_eraseIdx] at hj
      split at hj
      · have k1 : (keys m)[j]? = some p := by rw [List.getElem?_map, hj]; exact congrArg some z
        have := nd_ix a.nod k2 k1
        omega
      · have k1 : (keys m)[j + 1]? = some p := by rw [List.getElem?_map, hj]; exact congrArg some z
        have := nd_ix a.nod k2 k1
        omega
    rw [upd_ne this]; exact a.dis q (sl.subset hq)
  · by_cases hx : x = p
    · subst hx; exact .inr (List.mem_map.mpr ⟨_, hin, rfl⟩)
    · rw [upd_ne hx, n] at q; cases q
end
section
variable {X : CD} {e : Expr} {ρ ρ' : Rn} {m : Led} {R : D → Led → Prop} {x : Str} {i n : Nat} {p : Addr} {ks : List (List Int)} {ds : List D}
end
end DL


namespace DL
open PySem PySem.Spec PySem.Calls PyProof.Rows L2 RZ

/-! ### instances -/
abbrev CnIs (K : Frag) (cn : Str) (C : Addr) : Prop := PySem.W.nsIn K mainGlobals cn = some (some (.ref C))
theorem CnIs.inj {K : Frag} {cn : Str} {C C' : Addr} (h : CnIs K cn C) (h' : CnIs K cn C') : C = C' := by
  have := h.symm.trans h'
  cases this
  rfl
structure KnowsC (P : Program) (w : World) (K : Frag) (mg : Str → Option Value) (base : Heap) (k : Nat) (cn : Str) (n : Nat) (sp : SpX) : Prop where
  fn : ∃ C f fd ps, FnOk P w K mg base (L2.CX P w) k f fd ps (liftX K mg sp) ∧ mg cn = some (.ref C) ∧ CnIs K cn C ∧ Mk K C f ∧ Binds K fd ps [] ∧ ps.length = n + 1
structure KnowsM (P : Program) (w : World) (K : Frag) (mg : Str → Option Value) (base : Heap) (k : Nat) (cn mt : Str) (n : Nat) (sp : SpX) : Prop where
  fn : ∃ C f fd ps, FnOk P w K mg base (L2.CX P w) k f fd ps (liftX K mg sp) ∧ CnIs K cn C ∧ Cls K C ∧ Meth K C mt f ∧ Binds K fd ps [] ∧ ps.length = n + 1
structure AttF (K : Frag) (cn f : Str) : Prop where
  ex : ∃ C, CnIs K cn C ∧ Cls K C ∧ NoAttr K C f
theorem KnowsC.mono {P : Program} {w : World} {K : Frag} {mg : Str → Option Value} {base : Heap} {k j : Nat} {cn : Str} {n : Nat} {sp : SpX} (G : KnowsC P w K mg base k cn n sp) (h : k ≤ j) : KnowsC P w K mg base j cn n sp := by
  obtain ⟨C, f, fd, ps, FO, r⟩ := G.fn
  exact ⟨C, f, fd, ps, FO.mono h, r⟩
theorem KnowsM.mono {P : Program} {w : World} {K : Frag} {mg : Str → Option Value} {base : Heap} {k j : Nat} {cn mt : Str} {n : Nat} {sp : SpX} (G : KnowsM P w K mg base k cn mt n sp) (h : k ≤ j) : KnowsM P w K mg base j cn mt n sp := by
  obtain ⟨C, f, fd, ps, FO, r⟩ := G.fn
  exact ⟨C, f, fd, ps, FO.mono h, r⟩
/-- what C(..) asks: __init__ on a new instance, which is frozen then -/
def makeM (cn : Str) (sp : SpX) (ds : List D) (m : Led) (R : D → Led → Prop) (E : Str → Option (Str × D) → Led → Prop) : Prop := ∀ x dx, sp (.ref x :: ds) (m ++ [(dx, .own x), (x, .ins cn dx [] [])])
  (fun d m2 => d = .non ∧ ∃ ns vs, m2[m.length + 1]? = some (x, .ins cn dx ns vs) ∧ R (.obj cn ns vs) (m2.take m.length)) fun nm fd m2 => E nm fd (m2.take m.length)
section
variable {X : CD} {o e : Expr} {es : List Expr} {ρ : Rn} {m : Led} {R : D → Led → Prop} {E : Str → Option (Str × D) → Led → Prop} {cn mt f : Str} {p pos apos : Pos} {k n : Nat} {sp : SpX}
end
end DL


namespace DL
open PySem PySem.Spec PySem.Calls PyProof.Rows L2 RZ

def lookF : List Str → List D → Str → Option D
  | n :: ns, v :: vs, f => if n = f then some v else lookF ns vs f
  | _, _, _ => none
def putN : List Str → Str → List Str
  | [], f => [f]
  | n :: ns, f => if n = f then n :: ns else n :: putN ns f
def putV : List Str → List D → Str → D → List D
  | n :: ns, v :: vs, f, d => if n = f then d :: vs else v :: putV ns vs f d
  | _, _, _, d => [d]
def ObjV (m : Led) (d : D) (cn : Str) (ns : List Str) (vs : List D) : Prop := d = .obj cn ns vs ∨ ∃ (n : Nat) (a dx : Addr), d = .ref a ∧ m[n]? = some (a, .ins cn dx ns vs)
theorem ObjV.read {K : Frag} {F H : Hp} {m : Led} {d : D} {cn : Str} {ns : List Str} {vs : List D} {v : V} (h : ObjV m d cn ns vs) (at_ : At K F m H) (q : Den K F v d) : ∃ a C dx fs, v = .ref a ∧ H a = some (.ins C dx fs) ∧ CnIs K cn C ∧ fs.map (·.1) = ns ∧ Dens K F (fs.map (·.2)) vs := by
  rcases h with rfl | ⟨n, a, dx, rfl, hi⟩
  · cases q with
    | obj h hn hk hs => exact ⟨_, _, _, _, rfl, at_.sub _ _ h, hn, hk, hs⟩
  · cases q
    obtain ⟨hh, ⟨C, fs, rfl, hn, hk, hs⟩, e⟩ := at_.get hi
    exact ⟨_, _, _, _, rfl, e, hn, hk, hs⟩
section
variable {X : CD} {o e : Expr} {es : List Expr} {ρ : Rn} {m : Led} {R : D → Led → Prop} {E : Str → Option (Str × D) → Led → Prop} {cn mt f : Str} {p pos apos pos' : Pos} {k n : Nat} {sp : SpX}
end
end DL


namespace DL
open PySem PySem.Spec PySem.Calls PyProof.Rows L2 RZ

/-! ### subscripts with the caller's slots known: own __getitem__ may raise -/
structure IxE (X : CD) (d1 d2 : D) (ρ : Rn) (m : Led) (R : D → Led → Prop) : Prop where
  run : ∀ value slice F σ H x y pins s v u, Env X F σ ρ → Den X.K F x d1 → Den X.K F y d2 → AtX X F m H → Inv X pins σ H s → RelV x v → RelV y u →
  (∀ o i, subscripted slice false o i = operate [o, i] (getItem o i)) → (∀ o i, subscripted slice true o i = runValue (.builtin "lifetime.subscript" ⟨[o, i], []⟩)) → wpAny (model X.prog X.w) X.A (subscriptTail value slice v u) (EP X pins σ (PQ X.K F m H R)) X.xe s
section
variable {X : CD} {a b e : Expr} {ρ : Rn} {m : Led} {R : D → Led → Prop} {E : Str → Option (Str × D) → Led → Prop} {cn mt f : Str} {pos : Pos} {k n : Nat} {sp : SpX} {d d1 d2 : D}
theorem IxE.mono {R' : D → Led → Prop} (h : IxE X d1 d2 ρ m R) (kk : ∀ d m, R d m → R' d m) : IxE X d1 d2 ρ m R' := .mk fun value slice F σ H x y pins s v u en q1 q2 at_ I rx ry hs h2 => thn (h.run value slice F σ H x y pins s v u en q1 q2 at_ I rx ry hs h2) fun w s3 ⟨v3, H3, I3, r3, d, F3, m3, st, q, k⟩ => ⟨v3, H3, I3, r3, d, F3, m3, st, q, kk _ _ k⟩
/-! ### isinstance, any kind of data -/
inductive KindD (m : Led) : D → String → Prop
  | plain {d : D} {t : String} : tyD d = some t → KindD m d t
  | led {i : Nat} {a : Addr} {ds : List D} : m[i]? = some (a, .lst ds) → KindD m (.ref a) "list"
  | dic {d : D} {ks : List (List Int)} {ds : List D} : DicV m d ks ds → KindD m d "dict"
  | dicK {ks : List Key} {ds : List D} : KindD m (.dK ks ds) "dict"
/-- own classes: no built-in one -/
structure ObjK (K : Frag) (cn : Str) : Prop where
  ex : ∃ C, CnIs K cn C ∧ Cls K C ∧ PySem.W.findIn K (.ref C) "__class__" = some (some (.builtin "object.__class__")) ∧ PySem.W.specialIn K (.builtin "object.__class__") "__get__" = some (some (.builtin "getset_descriptor.__get__")) ∧ PySem.W.takesIn K (.builtin "object.__class__") = some true ∧ PySem.W.mroIn K C (.type "object") = some true ∧
    (∀ n ∈ ["int", "bool", "list", "tuple", "dict", "str"], PySem.W.kitOne K (.ref C) (.type n) = some false) ∧ PySem.W.kitOne K (.ref C) (.ref C) = some true ∧ ∀ t ∈ ["NoneType", "bool", "int", "str", "list", "tuple", "dict"], PySem.W.kitOne K (.type t) (.ref C) = some false
/-- what a value is, for isinstance: a built-in kind, or an instance of an own class -/
inductive KindV (K : Frag) (m : Led) (d : D) (t : Value) : Prop
  | kind {n : String} : KindD m d n → t = .type n → KindV K m d t
  | own {cn : Str} {C : Addr} {ns : List Str} {vs : List D} : ObjK K cn → CnIs K cn C → ObjV m d cn ns vs → t = .ref C → KindV K m d t
end
end DL


namespace DL
open PySem PySem.Spec PySem.Calls PyProof.Rows L2 RZ

/-! ### sorted, of tuples of ints of any lengths -/
def lexI : List Int → List Int → Bool
  | [], [] => false
  | [], _ :: _ => true
  | _ :: _, [] => false
  | a :: as, b :: bs => if a = b then lexI as bs else decide (a < b)
section
variable {prog : Program} {w : World} {A : Around} {E : Value → Shared → Prop} {s : Shared}
open TS
/-- sorted's question of such a list: all of them not empty, or the first one empty -/
def SrtOk (ks : List (List Int)) : Prop := (∀ k ∈ ks, k ≠ []) ∨ ks[0]? = some []
end
end DL


namespace DL
open PySem PySem.Spec PySem.Calls PyProof.Rows L2 RZ

section
variable {X : CD} {m : Led} {R : D → Led → Prop} {d d1 d2 : D} {b : Bool}
/-! sorted -/
theorem b_maxL {ns : List Int} (hc : X.calm = true) (h : LstV m d (ns.map D.int)) (h0 : 0 < ns.length) (k : ∀ i, i ∈ ns → (∀ y ∈ ns, y ≤ i) → R (.int i) m) : BX X (.builtin "max") [d] m R := BX.of (cr_max hc) fun F H xs qs at_ => by
  obtain ⟨v, rfl, q⟩ := qs.one
  obtain ⟨p, ys, rfl, e1, s1⟩ := h.read at_.toAt q
  exact ⟨p, ns, rfl, by rw [← s1.ints]; exact .inl e1, h0, fun i h1 h2 => PQ.now at_ (.int _) (k i h1 h2)⟩
/-! tuples put together, sliced -/
theorem o_catT {as bs : List D} (hl : as.length + bs.length ≤ 100000) (k : R (.tup (as ++ bs)) m) : OX X (binaryOp .Add) (.tup as) (.tup bs) m R := OX.of op_catA fun F H x y q1 q2 at_ => by
  obtain ⟨p, xs, rfl, e1, s1⟩ := tup_read at_.toAt q1
  obtain ⟨q, ys, rfl, e2, s2⟩ := tup_read at_.toAt q2
  refine ⟨p, q, xs, ys, rfl, rfl, e1, e2, lenOk (by rw [s1.length, s2.length]; exact hl), fun e => ?_, fun _ e => ?_, fun _ _ l hl => new_tup at_.toAt hl (s1.append s2) k⟩
  · subst e
    cases s1
    exact PQ.now at_ q2 k
  · subst e
    cases s2
    rw [List.append_nil] at k
    exact PQ.now at_ q1 k
theorem cut_all {as : List D} {lo hi : Option Int} (h : HT.sIx as.length 0 lo = 0 ∧ HT.sIx as.length as.length hi = as.length) : cutD as lo hi = as := by
  unfold cutD
  rw [h.1, h.2]
  simp
theorem sl_tupW {as : List D} {lo hi : Option Int} (k : R (.tup (cutD as lo hi)) m) : SlX X (.tup as) lo hi m R := .mk ⟨_, sl_tupA, fun F H x q at_ => by
  obtain ⟨p, xs, rfl, e1, s1⟩ := tup_read at_.toAt q
  refine ⟨p, xs, rfl, e1, fun e => ?_, fun _ l hl => new_tup at_.toAt hl (s1.cut lo hi) k⟩
  rw [s1.length] at e
  rw [cut_all e] at k
  exact PQ.now at_ q k⟩
end
section
variable {X : CD} {e o a c : Expr} {es : List Expr} {ρ : Rn} {m : Led} {R : D → Led → Prop} {p p2 pos pos2 apos cpos : Pos} {mg : Str → Option Value} {b : Bool}
end
end DL


namespace DL
open PySem PySem.Spec PySem.Calls PyProof.Rows L2 RZ

/-! ### several except clauses, each of which may name the exception, and whose suite returns -/
abbrev Hdl := Value × Option Nat × (Addr → Value → Option Addr → (V → Hp → Prop) → L2.St → Hp → Prop)
/-- what the clauses wish of an exception of the body -/
def wN (K : Frag) (Wout : L2.WX) (rt : V → Hp → Prop) : List Hdl → L2.WX
  | [] => Wout
  | (c, o, ts) :: r => fun cls d σ H => ∃ b, PySem.W.exmOne K cls c = some b ∧ (b = true → ∀ a, H a = none → ts a cls d rt (match o with | none => σ | some i => σ.set i (some (.ref a))) H) ∧ (b = false → wN K Wout rt r cls d σ H)
abbrev RtE (rt : V → Hp → Prop) : Ends := { nx := fun _ _ => False, rt := rt, bk := fun _ _ => False, ct := fun _ _ => False }
inductive HdsN (X : Cx) : List ExceptHandler → List Hdl → Prop
  | nil : HdsN X [] []
  | plain {x : Str} {c : Value} {ts} {b₀ : Stmt} {suite : List Stmt} {np pos' : Pos} {hds : List ExceptHandler} {l : List Hdl} (hc : Names X x c)
      (hsu : ∀ (a : Addr) (oe : Obj) (cls : Value) (d : Option Addr) (pn : List (Addr × Obj)), Zc cls d oe → (∃ vs, oe.data = .fields vs) → PSs (X.suite a ((a, oe) :: pn)) (b₀ :: suite) fun D σ H => ∃ rt, ts a cls d rt σ H ∧ ∀ v H', rt v H' → D.rt v H') (r : HdsN X hds l) :
      HdsN X (.ExceptHandler (some (.Name x np)) none (b₀ :: suite) pos' :: hds) ((c, none, ts) :: l)
  | named {x n : Str} {i : Nat} {c : Value} {ts} {b₀ : Stmt} {suite : List Stmt} {np pos' : Pos} {hds : List ExceptHandler} {l : List Hdl} (hc : Names X x c) (hi : X.N[i]? = some n) (hln : X.env.kindOf n = some .local)
      (hsu : ∀ (a : Addr) (oe : Obj) (cls : Value) (d : Option Addr) (pn : List (Addr × Obj)), Zc cls d oe → (∃ vs, oe.data = .fields vs) → PSs (X.suite a ((a, oe) :: pn)) (b₀ :: suite) fun D σ H => ∃ rt, ts a cls d rt σ H ∧ ∀ v H', rt v H' → D.rt v H') (r : HdsN X hds l) :
      HdsN X (.ExceptHandler (some (.Name x np)) (some n) (b₀ :: suite) pos' :: hds) ((c, some i, ts) :: l)
end DL


namespace DL
open PySem PySem.Spec PySem.Calls PyProof.Rows L2 RZ

/-! ### the whole ledger frozen for a while -/
mutual
def noL : D → Bool
  | .non => true
  | .bl _ => true
  | .int _ => true
  | .str _ => true
  | .ty _ => true
  | .ref _ => true
  | .tup xs => noLs xs
  | _ => false
def noLs : List D → Bool
  | [] => true
  | x :: xs => noL x && noLs xs
end
def isTp : HO → Bool
  | .tup _ => true
  | .frz _ _ => true
  | _ => false
def Nt (F F' : Hp) : Prop := ∀ b o, F b = some o → isTp o = true → F' b = some o
section
variable {K : Frag} {F F' : Hp}
theorem Nt.sqT {a : Addr} {xs : List V} (n : Nt F F') (h : SqT K F a xs) : SqT K F' a xs := by
  rcases h with h | h
  · rcases h with h | ⟨o, h⟩
    · exact .inl (.inl (n a _ h rfl))
    · exact .inl (.inr ⟨o, n a _ h rfl⟩)
  · exact .inr h
theorem MDen.ntp {a : Addr} : ∀ {o : MO} {h : HO}, MDen K F a o h → isTp h = false
  | .lst _, _, ⟨xs, q, hs⟩ => by rw [q]; rfl
  | .ins .., _, ⟨C, fs, q, nm, k, hs⟩ => by rw [q]; rfl
  | .own _, _, q => by rw [q]; rfl
  | .dI .., _, ⟨o, xs, vs, q, d, k, t, v, hs⟩ => by rw [q]; rfl
  | .dK .., _, ⟨fs, q, k, hs⟩ => by rw [q]; rfl
  | .dO .., _, ⟨o, xs, hh, kv, val, kV, vV, vs, q, _⟩ => by rw [q]; rfl
open Classical in
def frzA (F : Hp) (m : Led) (H : Hp) : Hp := fun b => if b ∈ keys m then H b else F b
open Classical in
def cutA (F : Hp) (m : Led) : Hp := fun b => if b ∈ keys m then none else F b
variable {H H2 F2 : Hp} {m : Led}
theorem dis_key (a : At K F m H) {b : Addr} (h : b ∈ keys m) : F b = none := by
  obtain ⟨q, hq, rfl⟩ := List.mem_map.mp h
  exact a.dis q hq
theorem Step.frzA (a : At K F m H) : Step K F m H (frzA F m H) [] H := by
  refine ⟨⟨fun b u e => ?_, fun q hq => (nomatch hq), fun q hq => (nomatch hq), List.nodup_nil⟩, fun b u e => ?_, fun _ _ e _ => e, fun b u e n => ?_, fun b hb => (nomatch hb)⟩
  · unfold DL.frzA at e
    split at e
    · exact e
    · exact a.sub b u e
  · unfold DL.frzA
    rw [if_neg (fun z => by rw [dis_key a z] at e; cases e)]
    exact e
  · unfold DL.frzA at e
    split at e
    · rename_i h; exact .inr h
    · rw [n] at e; cases e
theorem Step.cutA (a : At K F m H) (s : Step K (DL.frzA F m H) [] H F2 [] H2) : Step K F m H (cutA F2 m) m H2 ∧ Nt F2 (DL.cutA F2 m) := by
  have ex : Ex F (DL.cutA F2 m) := fun b u e => by
    have nk : b ∉ keys m := fun z => by rw [dis_key a z] at e; cases e
    unfold DL.cutA
    rw [if_neg nk]
    exact s.ex b u (by unfold DL.frzA; rw [if_neg nk]; exact e)
  refine ⟨⟨⟨fun b u e => ?_, fun q hq => ?_, fun q hq => if_pos (List.mem_map.mpr ⟨q, hq, rfl⟩), a.nod⟩, ex, fun b u e _ => s.keep b u e (fun z => nomatch z), fun b u e n => ?_, fun b hb => .inl hb⟩, fun b u e t => ?_⟩
  · unfold DL.cutA at e
    split at e
    · cases e
    · exact s.at2.sub b u e
  · obtain ⟨hh, e1, e2⟩ := a.led q hq
    exact ⟨hh, e1.mono ex, s.keep _ _ e2 (fun z => nomatch z)⟩
  · unfold DL.cutA at e
    split at e
    · cases e
    · rename_i nk
      rcases s.frF b u e (by unfold DL.frzA; rw [if_neg nk]; exact n) with h | h
      · exact .inl h
      · exact nomatch h
  · unfold DL.cutA
    split
    · rename_i h
      exfalso
      obtain ⟨q, hq, rfl⟩ := List.mem_map.mp h
      obtain ⟨hh, e1, e2⟩ := a.led q hq
      have := s.ex q.1 hh (by unfold DL.frzA; rw [if_pos h]; exact e2)
      rw [e] at this
      cases this
      rw [e1.ntp] at t
      cases t
    · exact e
end
section
variable {X : CD} {e : Expr} {ρ ρ' : Rn} {m : Led} {R : D → Led → Prop} {x : Str} {i n : Nat} {p : Addr} {ds : List D}
end
end DL


namespace DL
open PySem PySem.Spec PySem.Calls PyProof.Rows L2 RZ

/-! ### dict of pairs with bare int keys -/
def pairK (p : Int × D) : D := .tup [.int p.1, p.2]
section
variable {X : CD} {m : Led} {R : D → Led → Prop} {d : D}
end
end DL


namespace DL
open PySem PySem.Spec PySem.Calls PyProof.Rows L2 RZ
open AutoSeq1 (wpAny_loadPart')

/-! ### sorted of a tuple of ints -/
section
variable {prog : Program} {w : World} {A : Around} {E : Value → Shared → Prop} {s : Shared}
end
def rSortedT (K : Frag) : List V → Hp → VK → Prop := fun vs H Q => ∃ (a : Addr) (ns : List Int), vs = [V.ref a] ∧ SqT K H a (ns.map V.int) ∧
  ∀ (ns' : List Int) (p : Addr), ns'.Perm ns → ns'.Pairwise (· ≤ ·) → H p = none → Q (.ref p) (upd H p (.lst (ns'.map V.int)))
section
variable {X : CD} {m : Led} {R : D → Led → Prop} {b : Bool}
end
/-! ### enumerate of a tuple -/
section
variable {prog : Program} {w : World} {A : Around} {E : Value → Shared → Prop} {s : Shared}
end
def IteT (K : Frag) (a : Addr) : It :=
  ⟨fun i H => ∃ (xs : List V) (x : V), SqT K H a xs ∧ xs[i]? = some x, fun i H v H' => ∃ T x, v = .ref T ∧ H T = none ∧ H' = upd H T (.tup [.int (i : Nat), x]) ∧ ∀ xs, SqT K H a xs → xs[i]? = some x, fun i H => ∃ xs : List V, SqT K H a xs ∧ xs.length ≤ i⟩
def iEnumT (K : Frag) (ta : TA) : TI := fun σ H R => ta σ H fun vs H1 => ∃ a xs, vs = [.ref a] ∧ ((SqL K H1 a xs ∧ R (Ite K a) H1) ∨ (SqT K H1 a xs ∧ R (IteT K a) H1))
section
variable {X : CD} {a : Expr} {ρ : Rn} {m : Led} {R : List D → Led → Prop} {p pos tpos : Pos}
end
end DL


namespace DL
open PySem PySem.Spec PySem.Calls PyProof.Rows L2 RZ

/-! ### operators of own classes: they may raise -/
structure OE (X : CD) (f : Value → Value → Sem Value) (d1 d2 : D) (ρ : Rn) (m : Led) (R : D → Led → Prop) : Prop where
  run : ∀ F σ H x y pins s v u, Env X F σ ρ → Den X.K F x d1 → Den X.K F y d2 → AtX X F m H → Inv X pins σ H s → RelV x v → RelV y u →
  wpAny (model X.prog X.w) X.A (f v u) (EP X pins σ (PQ X.K F m H R)) X.xe s
structure UE (X : CD) (f : Value → Sem Value) (d1 : D) (ρ : Rn) (m : Led) (R : D → Led → Prop) : Prop where
  run : ∀ F σ H x pins s v, Env X F σ ρ → Den X.K F x d1 → AtX X F m H → Inv X pins σ H s → RelV x v →
  wpAny (model X.prog X.w) X.A (f v) (EP X pins σ (PQ X.K F m H R)) X.xe s
section
variable {X : CD} {a b e : Expr} {ρ : Rn} {m : Led} {R : D → Led → Prop} {E : Str → Option (Str × D) → Led → Prop} {cn mt : Str} {pos : Pos} {k n : Nat} {sp : SpX} {d d1 d2 : D} {f : Value → Value → Sem Value} {g : Value → Sem Value}
theorem OE.mono {R' : D → Led → Prop} (h : OE X f d1 d2 ρ m R) (kk : ∀ d m, R d m → R' d m) : OE X f d1 d2 ρ m R' := .mk fun F σ H x y pins s v u en q1 q2 at_ I rx ry => thn (h.run F σ H x y pins s v u en q1 q2 at_ I rx ry) fun w s3 ⟨v3, H3, I3, r3, d, F3, m3, st, q, k⟩ => ⟨v3, H3, I3, r3, d, F3, m3, st, q, kk _ _ k⟩
/-- own op own -/
abbrev OwnF (K : Frag) (cn : Str) : Prop := ∀ C, CnIs K cn C → PySem.W.selfFirst K C = true
/-- own op int -/
structure IntF (K : Frag) (cn : Str) (nm : String) : Prop where
  ok : ∀ C, CnIs K cn C → PySem.W.selfFirst K C = true ∧ PySem.W.findIn K (.ref C) (PySem.dunderR nm) = some none ∧ (∃ fo, PySem.W.findIn K (.type "int") (PySem.dunder nm) = some fo) ∧ (∃ ro, PySem.W.findIn K (.type "int") (PySem.dunderR nm) = some ro) ∧ PySem.W.subIn K (.type "int") (.ref C) = some false
end
end DL


namespace DL
open PySem PySem.Spec PySem.Calls PyProof.Rows L2 RZ

/-! ### {} and {k: v}: keys that are tuples of ints -/
section
variable {X : CD} {kx vx : Expr} {ρ : Rn} {m : Led} {R : D → Led → Prop} {pos : Pos} {b : Bool}
def tNewD : TE := fun σ H Q => ∀ p o, H p = none → DictObj p o [] → Q (.ref p) (upd H p (objO p o))
end
end DL


namespace DL
open PySem PySem.Spec PySem.Calls PyProof.Rows L2 RZ

/-! ### own __iter__ that tells iter(self.f), f a list -/
/-- a def whose promise may tell of the heap's size where it is called -/
structure FnOkS (P : Program) (w : World) (K : Frag) (mg : Str → Option Value) (base : Heap) (CX : CXT) (k : Nat) (f : Addr) (fd : FuncData) (ps : List Str) (sp : Nat → Sp) : Prop where
  len : ∀ n vs H Q E, sp n vs H Q E → vs.length = ps.length
  run : ∀ (A : Around) (outer : List PySem.Env) (s : Shared) (H : Hp) (args : Args) (us : List Value) (vs : List V) (Q : VK) (E : XK), Room k A → Env0 P w K mg base A outer s H → BindsTo s fd args (ps.zip us) → Vals vs us → sp s.heap.objs.size vs H Q E →
    codeAny (model P w) A (.call (.ref f) args) (CR CX outer P w H s Q E) s
/-- what __iter__ promises: a new iterator over the list in its field -/
def spIter (K : Frag) (cn fld : Str) (n : Nat) : Sp := fun vs H Q _ => ∃ (x C dx : Addr) (fs : List (Str × V)) (l : Addr) (zs : List V), vs = [.ref x] ∧ H x = some (.ins C dx fs) ∧ CnIs K cn C ∧ fs.lookup fld = some (.ref l) ∧ SqL K H l zs ∧ ∀ it, H it = none → n ≤ it → Q (.ref it) (upd H it (ItO l it 0))
section
variable {P : Program} {w : World} {K : Frag} {mg : Str → Option Value} {base : Heap}
end
/-- an own class whose __iter__ is such a one -/
structure KnowsI (P : Program) (w : World) (K : Frag) (mg : Str → Option Value) (base : Heap) (k : Nat) (cn fld : Str) : Prop where
  fn : ∃ C f fd, FnOkS P w K mg base CX0 k f fd ["self"] (spIter K cn fld) ∧ CnIs K cn C ∧ Meth K C "__iter__" f ∧ Binds K fd ["self"] []
section
variable {X : CD} {tg it : Expr} {ρ : Rn} {m : Led} {R : List D → Led → Prop} {cn fld : Str} {k : Nat}
def iOwn (X : Cx) (cn fld : Str) (it : Expr) : TI := fun σ H R => SE X it σ H fun x H1 => ∃ (a C dx : Addr) (fs : List (Str × V)) (l : Addr) (zs : List V), x = .ref a ∧ H1 a = some (.ins C dx fs) ∧ CnIs X.K cn C ∧ fs.lookup fld = some (.ref l) ∧ SqL X.K H1 l zs ∧ R (Itl X.K l) H1
end
/-! ### x in o, x not in o -/
section
variable {X : CD} {a b e : Expr} {ρ : Rn} {m : Led} {R : D → Led → Prop} {E : Str → Option (Str × D) → Led → Prop} {cn : Str} {k n : Nat} {sp : SpX} {d1 d2 : D} {ns : List Str} {vs : List D}
end
end DL


namespace DL
open PySem PySem.Spec PySem.Calls PyProof.Rows L2 RZ

/-! ### own __len__ that tells len(self.f), f a list -/
def spLen (K : Frag) (cn fld : Str) (_ : Nat) : Sp := fun vs H Q _ => ∃ (x C dx : Addr) (fs : List (Str × V)) (l : Addr) (zs : List V), vs = [.ref x] ∧ H x = some (.ins C dx fs) ∧ CnIs K cn C ∧ fs.lookup fld = some (.ref l) ∧ SqL K H l zs ∧ Q (.int zs.length) H
section
variable {P : Program} {w : World} {K : Frag} {mg : Str → Option Value} {base : Heap}
end
structure KnowsL (P : Program) (w : World) (K : Frag) (mg : Str → Option Value) (base : Heap) (k : Nat) (cn fld : Str) : Prop where
  fn : ∃ C f fd, FnOkS P w K mg base CX0 k f fd ["self"] (spLen K cn fld) ∧ CnIs K cn C ∧ Meth K C "__len__" f ∧ Binds K fd ["self"] []
section
variable {X : CD} {m : Led} {cn fld : Str} {k : Nat} {pins : List (Addr × Obj)} {σ : L2.St} {H : Hp} {s : Shared} {a C dx l q : Addr} {fs : List (Str × V)} {zs : List V} {A : Around}
end
section
variable {X : CD} {cn fld : Str} {k : Nat}
variable {m : Led} {R : D → Led → Prop} {d : D} {ds : List D} {ns : List Str} {vs : List D} {b : Bool}
end
end DL


namespace DL
open PySem PySem.Spec PyProof.Rows L2 RZ

/-! ### what a piece of code does, over data: what is wanted of the value and of what is raised -/
abbrev XR := Str → Option (Str × D) → Led → Prop
abbrev M (α : Type) := Led → (α → Led → Prop) → XR → Prop
def ret {α : Type} (a : α) : M α := fun m R _ => R a m
def bnd {α β : Type} (c : M α) (k : α → M β) : M β := fun m R E => c m (fun a m' => k a m' R E) E
def bad {α : Type} : M α := fun _ _ _ => False
def iteM {α : Type} (k : Bool) (a b : M α) : M α := fun m R E => (k = true → a m R E) ∧ (k = false → b m R E)
/-- what is raised is wished for by the context -/
abbrev XA (X : CD) (ρ : Rn) (E : XR) : Prop := ∀ nm fd m2, E nm fd m2 → X.xq nm fd ρ m2
abbrev XF (X : CD) (E : XR) : Prop := ∀ ρ nm fd m2, E nm fd m2 → X.xq nm fd ρ m2

/-! ### judgements -/
structure Ev (X : CD) (e : Expr) (ρ : Rn) (c : M D) : Prop where
  run : ∀ m R E, XA X ρ E → c m R E → EX X e ρ m R
structure Tv (X : CD) (e : Expr) (ρ : Rn) (c : M Bool) : Prop where
  run : ∀ m R E, XA X ρ E → c m R E → TX X e ρ m R
structure Wv (X : CD) (e : Expr) (ρ : Rn) (c : M Bool) : Prop where
  run : ∀ m R E, XA X ρ E → c m R E → WX X e ρ m R
structure EvA (X : CD) (es : List Expr) (ρ : Rn) (c : M (List D)) : Prop where
  run : ∀ m R E, XA X ρ E → c m R E → AX X es ρ m R
structure EvO (X : CD) (o : Option Expr) (ρ : Rn) (c : M (Option Int)) : Prop where
  run : ∀ m R E, XA X ρ E → c m R E → PX X o ρ m R
structure Iv (X : CD) (tg it : Expr) (ρ : Rn) (c : M (List D)) : Prop where
  run : ∀ m R E, XA X ρ E → c m R E → IX X tg it ρ m R
theorem AX.mono {X : CD} {es : List Expr} {ρ : Rn} {m : Led} {R R' : List D → Led → Prop} (h : AX X es ρ m R) (q : ∀ d m', R d m' → R' d m') : AX X es ρ m R' := .mk fun F σ H en a => (h.run F σ H en a).mono fun v H1 ⟨d, F1, m1, s, k, r⟩ => ⟨d, F1, m1, s, k, q d m1 r⟩
theorem WX.mono {X : CD} {e : Expr} {ρ : Rn} {m : Led} {R R' : Bool → Led → Prop} (h : WX X e ρ m R) (q : ∀ d m', R d m' → R' d m') : WX X e ρ m R' := .mk fun F σ H en a => (h.run F σ H en a).mono fun v H1 ⟨F1, m1, s, r⟩ => ⟨F1, m1, s, q v m1 r⟩
theorem IX.mono {X : CD} {tg it : Expr} {ρ : Rn} {m : Led} {R R' : List D → Led → Prop} (h : IX X tg it ρ m R) (q : ∀ d m', R d m' → R' d m') : IX X tg it ρ m R' := .mk fun F σ H en a => (h.run F σ H en a).mono fun v H1 ⟨d, F1, m1, s, r, w⟩ => ⟨d, F1, m1, s, q d m1 r, w⟩
theorem PX.mono {X : CD} {o : Option Expr} {ρ : Rn} {m : Led} {R R' : Option Int → Led → Prop} (h : PX X o ρ m R) (q : ∀ d m', R d m' → R' d m') : PX X o ρ m R' := by
  cases o with
  | none => exact q _ _ h
  | some e => exact EX.mono h fun d m' ⟨i, e, r⟩ => ⟨i, e, q _ _ r⟩

/-! ### operations over data -/
def noneM : M D := ret .non
/-- a list of the ledger or a frozen one -/
def lstM (d : D) : M (List D) := fun m R _ => match d with
  | .lst ds => R ds m
  | .ref a => ∃ (n : Nat) (ds : List D), m[n]? = some (a, .lst ds) ∧ R ds m
  | _ => False
theorem lstM_v {d : D} {m R E} (h : lstM d m R E) : ∃ ds, LstV m d ds ∧ R ds m := by
  cases d <;> try exact h.elim
  · exact ⟨_, .inl rfl, h⟩
  · obtain ⟨n, ds, h1, h2⟩ := h
    exact ⟨ds, .inr ⟨n, _, rfl, h1⟩, h2⟩
def isSeqD : D → Bool
  | .lst _ => true
  | .ref _ => true
  | _ => false
def addM (a b : D) : M D := fun m R E => match a, b with
  | .int i, .int j => R (.int (i + j)) m
  | .lst as, .lst bs => as.length + bs.length ≤ 100000 ∧ R (.lst (as ++ bs)) m
  | .lst as, .ref b => lstM (.ref b) m (fun bs m' => as.length + bs.length ≤ 100000 ∧ R (.lst (as ++ bs)) m') E
  | .ref a, .lst bs => lstM (.ref a) m (fun as m' => as.length + bs.length ≤ 100000 ∧ R (.lst (as ++ bs)) m') E
  | .tup as, .tup bs => as.length + bs.length ≤ 100000 ∧ R (.tup (as ++ bs)) m
  | _, _ => False
/-- a + b, the new list to be changed -/
def addMM (a b : D) : M D := fun m R E => lstM a m (fun as m1 => lstM b m1 (fun bs m2 => as.length + bs.length ≤ 100000 ∧ ∀ p, R (.ref p) (m2 ++ [(p, .lst (as ++ bs))])) E) E
def subM (a b : D) : M D := fun m R _ => match a, b with
  | .int i, .int j => R (.int (i - j)) m
  | _, _ => False
def mulM (a b : D) : M D := fun m R _ => match a, b with
  | .int i, .int j => IntMulOk i j ∧ R (.int (i * j)) m
  | _, _ => False
def fdivM (a b : D) : M D := fun m R _ => match a, b with
  | .int i, .int j => CDivG i j ∧ R (.int (i.fdiv j)) m
  | _, _ => False
def modM (a b : D) : M D := fun m R _ => match a, b with
  | .int i, .int j => j ≠ 0 ∧ R (.int (i.fmod j)) m
  | _, _ => False
def powM (a b : D) : M D := fun m R _ => match a, b with
  | .int i, .int j => CPow i j ∧ R (.int (i ^ j.toNat)) m
  | _, _ => False
def binM (op : Operator) (a b : D) : M D := match op with
  | .Add => addM a b
  | .Sub => subM a b
  | .Mult => mulM a b
  | .FloorDiv => fdivM a b
  | .Mod => modM a b
  | .Pow => powM a b
  | _ => bad
section
variable {X : CD} {m : Led} {R : D → Led → Prop} {E : XR} {a b : D}
theorem addM_ok (h : addM a b m R E) : OX X (binaryOp .Add) a b m R := by
  cases a <;> cases b <;> try exact h.elim
  · exact o_add h
  · exact o_cat (.inl rfl) (.inl rfl) h.1 h.2
  · obtain ⟨n, ds, h1, h2, h3⟩ := h
    exact o_cat (.inl rfl) (.inr ⟨n, _, rfl, h1⟩) h2 h3
  · exact o_catT h.1 h.2
  · obtain ⟨n, ds, h1, h2, h3⟩ := h
    exact o_cat (.inr ⟨n, _, rfl, h1⟩) (.inl rfl) h2 h3
theorem binM_ok {op : Operator} (h : binM op a b m R E) : OX X (binaryOp op) a b m R := by
  cases op <;> try exact h.elim
  · exact addM_ok h
  · have h : subM a b m R E := h
    cases a <;> cases b <;> try exact h.elim
    exact o_sub h
  · have h : mulM a b m R E := h
    cases a <;> cases b <;> try exact h.elim
    exact o_mul h.1 h.2
  · have h : modM a b m R E := h
    cases a <;> cases b <;> try exact h.elim
    exact o_modN h.1 h.2
  · have h : powM a b m R E := h
    cases a <;> cases b <;> try exact h.elim
    exact o_pow h.1 h.2
  · have h : fdivM a b m R E := h
    cases a <;> cases b <;> try exact h.elim
    exact o_fdivN h.1 h.2
end
/-- op= -/
def inplM (op : Operator) (a b : D) : M D := fun m R _ => match op, a, b with
  | .Add, .int i, .int j => R (.int (i + j)) m
  | .Sub, .int i, .int j => R (.int (i - j)) m
  | _, _, _ => False
def unM (op : UnaryOp) (a : D) : M D := fun m R _ => match op, a with
  | .USub, .int i => R (.int (-i)) m
  | _, _ => False
theorem unM_ok {X : CD} {op : UnaryOp} {a : D} {m R E} (h : unM op a m R E) : UX X (unaryOp op) a m R := by
  cases op <;> try exact h.elim
  all_goals cases a <;> try exact h.elim
  exact u_neg h
/-! comparisons -/
/-- == of data: None, bools, ints, texts, lists and tuples of such, seen through the ledger -/
def eqD (a b : D) : Bool := PyData.eqv (py a) (py b)
/-- two dicts, with values of such a kind -/
def dicB (a b : D) (m : Led) (R : Bool → Prop) : Prop := ∃ ks ds ls es, DicV m a ks ds ∧ DicV m b ls es ∧ (∀ d ∈ ds, Sh 20 d) ∧ (∀ d ∈ es, Sh 20 d) ∧ R (eqDic ks ds ls es)
def eqB (a b : D) : M Bool := fun m R _ => (∃ a' b', DW m a a' ∧ DW m b b' ∧ Sh 20 a' ∧ Sh 20 b' ∧ R (eqD a' b') m) ∨ dicB a b m fun k => R k m
def neB (a b : D) : M Bool := fun m R _ => (∃ a' b', DW m a a' ∧ DW m b b' ∧ Sh 20 a' ∧ Sh 20 b' ∧ R (!eqD a' b') m) ∨ dicB a b m fun k => R (!k) m
def ordB (f : Int → Int → Bool) (a b : D) : M Bool := fun m R _ => match a, b with
  | .int i, .int j => R (f i j) m
  | _, _ => False
def isB (a b : D) : M Bool := fun m R _ => match b with
  | .non => R (isN a) m
  | _ => False
def isnB (a b : D) : M Bool := fun m R _ => match b with
  | .non => R (!isN a) m
  | _ => False
/-- in, not in: a dict's keys -/
def inB (neg : Bool) (a b : D) : M Bool := fun m R _ => ∃ k ks ds, a = keyD k ∧ DicV m b ks ds ∧ R (if neg then !decide (k ∈ ks) else decide (k ∈ ks)) m
def cmpB (op : CmpOp) (a b : D) : M Bool := match op with
  | .Eq => eqB a b
  | .NotEq => neB a b
  | .Lt => ordB (fun i j => decide (i < j)) a b
  | .LtE => ordB (fun i j => decide (i ≤ j)) a b
  | .Gt => ordB (fun i j => decide (j < i)) a b
  | .GtE => ordB (fun i j => decide (j ≤ i)) a b
  | .Is => isB a b
  | .IsNot => isnB a b
  | .In => inB false a b
  | .NotIn => inB true a b
theorem cmpB_ok {X : CD} {op : CmpOp} {a b : D} {m : Led} {R : Bool → Led → Prop} {E : XR} (hu : X.A.units + 64 < cLine) (h : cmpB op a b m R E) : OX X (compareOp op) a b m fun d m' => ∃ k, d = .bl k ∧ R k m' := by
  cases op <;> try exact h.elim
  · obtain ⟨a', b', h1, h2, h3, h4, h5⟩ | ⟨ks, ds, ls, es, h1, h2, h3, h4, h5⟩ := h
    case inr => exact o_eqDic hu h1 h2 h3 h4 ⟨_, rfl, h5⟩
    exact OX.of (op_eqP hu) fun F H x y q1 q2 at_ => ⟨_, _, h1.dp at_.toAt 20 h3 q1, h2.dp at_.toAt 20 h4 q2, (h3.ok).1, (h4.ok).1, Nat.le_trans (h3.ok).2 (by decide), PQ.now at_.toAt (.bl _) ⟨_, rfl, h5⟩⟩
  · obtain ⟨a', b', h1, h2, h3, h4, h5⟩ | ⟨ks, ds, ls, es, h1, h2, h3, h4, h5⟩ := h
    case inr => exact o_neDic hu h1 h2 h3 h4 ⟨_, rfl, h5⟩
    exact OX.of (op_neP hu) fun F H x y q1 q2 at_ => ⟨_, _, h1.dp at_.toAt 20 h3 q1, h2.dp at_.toAt 20 h4 q2, (h3.ok).1, (h4.ok).1, Nat.le_trans (h3.ok).2 (by decide), PQ.now at_.toAt (.bl _) ⟨_, rfl, h5⟩⟩
  all_goals first
    | (have h : ordB _ a b m R E := h
       cases a <;> cases b <;> try exact h.elim)
    | skip
  · exact o_lt ⟨_, rfl, h⟩
  · exact o_le ⟨_, rfl, h⟩
  · exact o_gt ⟨_, rfl, h⟩
  · exact o_ge ⟨_, rfl, h⟩
  · have h : isB a b m R E := h
    cases b <;> try exact h.elim
    exact o_isN ⟨_, rfl, h⟩
  · have h : isnB a b m R E := h
    cases b <;> try exact h.elim
    exact o_notN ⟨_, rfl, h⟩
  · obtain ⟨k, ks, ds, rfl, h1, h2⟩ := h
    exact o_inD hu h1 ⟨_, rfl, h2⟩
  · obtain ⟨k, ks, ds, rfl, h1, h2⟩ := h
    exact o_notinD hu h1 ⟨_, rfl, h2⟩
def blM (b : Bool) : M D := ret (.bl b)
def cmpM (op : CmpOp) (a b : D) : M D := bnd (cmpB op a b) blM
theorem cmpM_ok {X : CD} {op : CmpOp} {a b : D} {m : Led} {R : D → Led → Prop} {E : XR} (hu : X.A.units + 64 < cLine) (h : cmpM op a b m R E) : OX X (compareOp op) a b m R :=
  .mk fun F σ H x y pins s v u q1 q2 at_ I rx ry => thn ((cmpB_ok hu h).run F σ H x y pins s v u q1 q2 at_ I rx ry) fun w s3 ⟨v3, H3, I3, r3, d, F3, m3, st3, q3, k, ek, kk⟩ => ⟨v3, H3, I3, r3, d, F3, m3, st3, q3, by subst ek; exact kk⟩
/-- truth -/
def truB (d : D) : M Bool := fun m R _ => ∃ k, TruD m d k ∧ R k m
/-- o[i] -/
def ixM (o i : D) : M D := fun m R _ => match o, i with
  | .tup ds, .int i => ∃ x, atI ds i = some x ∧ R x m
  | .lst ds, .int i => ∃ x, atI ds i = some x ∧ R x m
  | .ref a, .int i => ∃ (n : Nat) (ds : List D) (x : D), m[n]? = some (a, .lst ds) ∧ atI ds i = some x ∧ R x m
  | .str z, .int i => ∃ c, z.length ≤ 100000 ∧ atI z.cps.toList i = some c ∧ R (.str ⟨#[c]⟩) m
  | .dI ks ds, .tup kd => ∃ (k : List Int) (j : Nat) (x : D), kd = k.map .int ∧ ks[j]? = some k ∧ ds[j]? = some x ∧ R x m
  | .ref a, .tup kd => ∃ (n : Nat) (ks : List (List Int)) (ds : List D) (k : List Int) (j : Nat) (x : D), m[n]? = some (a, .dI ks ds) ∧ kd = k.map .int ∧ ks[j]? = some k ∧ ds[j]? = some x ∧ R x m
  | _, _ => False
theorem ixM_ok {X : CD} {a b : D} {m R E} (hu : X.A.units + 64 < cLine) (h : ixM a b m R E) : IxX X a b m R := by
  cases a <;> cases b <;> try exact h.elim
  · obtain ⟨c, h1, h2, h3⟩ := h
    exact i_str h1 h2 h3
  · obtain ⟨x, h1, h2⟩ := h
    exact i_lst (.inl rfl) h1 h2
  · obtain ⟨x, h1, h2⟩ := h
    exact i_tup h1 h2
  · obtain ⟨k, j, x, rfl, h1, h2, h3⟩ := h
    exact i_dic hu (.inl rfl) h1 h2 h3
  · obtain ⟨n, ds, x, h1, h2, h3⟩ := h
    exact i_lst (.inr ⟨n, _, rfl, h1⟩) h2 h3
  · obtain ⟨n, ks, ds, k, j, x, h1, rfl, h2, h3, h4⟩ := h
    exact i_dic hu (.inr ⟨n, _, rfl, h1⟩) h2 h3 h4
/-- o[lo:hi] -/
def slM (d : D) (lo hi : Option Int) : M D := fun m R E => match d with
  | .tup ds => R (.tup (cutD ds lo hi)) m
  | d => lstM d m (fun ds m' => R (.lst (cutD ds lo hi)) m') E
theorem slM_ok {X : CD} {d : D} {lo hi : Option Int} {m R E} (h : slM d lo hi m R E) : SlX X d lo hi m R := by
  cases d <;> try exact h.elim
  · exact sl_lst (.inl rfl) h
  · exact sl_tupW h
  · obtain ⟨n, ds, h1, h2⟩ := h
    exact sl_lst (.inr ⟨n, _, rfl, h1⟩) h2
def mkT (ds : List D) : M D := fun m R _ => ds.length ≤ 100000 ∧ R (.tup ds) m
def mkL (ds : List D) : M D := fun m R _ => ds.length ≤ 100000 ∧ R (.lst ds) m
def newL (ds : List D) : M D := fun m R _ => ds.length ≤ 100000 ∧ ∀ p, R (.ref p) (m ++ [(p, .lst ds)])
/-- a list of the ledger, from then on frozen -/
def frzM (d : D) : M D := fun m R _ => match d with
  | .ref p => (∃ (n : Nat) (ds : List D), m[n]? = some (p, .lst ds) ∧ R (.lst ds) (m.eraseIdx n)) ∨ ∃ (n : Nat) (ks : List (List Int)) (ds : List D), m[n]? = some (p, .dI ks ds) ∧ R (.dI ks ds) (m.eraseIdx n)
  | d => R d m

/-! ### expressions -/
section
variable {X : CD} {e a b t : Expr} {es : List Expr} {ρ : Rn} {pos p2 : Pos} {c ca cb : M D} {ct : M Bool} {cs : M (List D)} {i : Nat} {x : Str} {d : D}
theorem ev_var (h : LookAt ρ i x d) (hv : Vis X.env.scope x := by first | exact Or.inl rfl | exact Or.inr (Or.inl rfl) | exact Or.inr (Or.inr rfl)) (hd : (x == ("__debug__" : Str)) = false := by decide)
    (hcd : (x == ("__classdict__" : Str)) = false := by decide) : Ev X (.Name x pos) ρ (ret d) := ⟨fun m R E _ k => x_var h k hv hd hcd⟩
theorem ev_int {i : Int} {j : Nat} : Ev X (.Constant (.int i) j pos) ρ (ret (.int i)) := ⟨fun m R E _ k => x_int k⟩
theorem ev_bl {i : Bool} {j : Nat} : Ev X (.Constant (.bool i) j pos) ρ (ret (.bl i)) := ⟨fun m R E _ k => x_bl k⟩
theorem ev_non {j : Nat} : Ev X (.Constant .none j pos) ρ (ret .non) := ⟨fun m R E _ k => x_non k⟩
theorem ev_str {x : Str} {j : Nat} : Ev X (.Constant (.str x) j pos) ρ (ret (.str x)) := ⟨fun m R E _ k => x_str k⟩
theorem ev_glob {mg : Str → Option Value} {K : Frag} {d : D} (hgc : GC K mg x d) (hX : X.mg = mg ∧ X.K = K := by exact ⟨rfl, rfl⟩) (h : Gl X x := by rfl) (hd : (x == ("__debug__" : Str)) = false := by decide) : Ev X (.Name x pos) ρ (ret d) := ⟨fun m R E _ k => c_glob hgc k hX h hd⟩
theorem ev_bin {op : Operator} (ha : Ev X a ρ ca) (hb : Ev X b ρ cb) : Ev X (.BinOp a op b pos) ρ (bnd ca fun x => bnd cb fun y => binM op x y) := ⟨fun m R E xa h =>
  x_bin ((ha.run m _ E xa h).mono fun d1 m1 h1 => (hb.run m1 _ E xa h1).mono fun d2 m2 h2 => binM_ok h2)⟩
theorem ev_un {op : UnaryOp} (ha : Ev X a ρ ca) : Ev X (.UnaryOp op a pos) ρ (bnd ca fun x => unM op x) := ⟨fun m R E xa h => x_un ((ha.run m _ E xa h).mono fun d1 m1 h1 => unM_ok h1)⟩
theorem ev_cmp {op : CmpOp} (hu : X.A.units + 64 < cLine) (ha : Ev X a ρ ca) (hb : Ev X b ρ cb) (hm : behindInMarks op b = false := by first | exact nobehind _ (by decide) (by decide) | rfl | with_unfolding_all rfl) : Ev X (.Compare a [op] [b] pos) ρ (bnd ca fun x => bnd cb fun y => cmpM op x y) := ⟨fun m R E xa h =>
  x_cmp ((ha.run m _ E xa h).mono fun d1 m1 h1 => (hb.run m1 _ E xa h1).mono fun d2 m2 h2 => cmpM_ok hu h2) hm⟩
theorem tv_cmp {op : CmpOp} (hu : X.A.units + 64 < cLine) (ha : Ev X a ρ ca) (hb : Ev X b ρ cb) (hm : behindInMarks op b = false := by first | exact nobehind _ (by decide) (by decide) | rfl | with_unfolding_all rfl) : Tv X (.Compare a [op] [b] pos) ρ (bnd ca fun x => bnd cb fun y => cmpB op x y) := ⟨fun m R E xa h =>
  t_cmp ((ha.run m _ E xa h).mono fun d1 m1 h1 => (hb.run m1 _ E xa h1).mono fun d2 m2 h2 => cmpB_ok hu h2) hm⟩
theorem tv_val (ha : Ev X a ρ ca) (he : ∀ whole, isTrue a X.env whole = (do let v ← whole; standAt a.pos; holding [v] (truthy v)) := by intro _; rfl) : Tv X a ρ (bnd ca truB) := ⟨fun m R E xa h => t_tru ((ha.run m _ E xa h).mono fun d m1 h => h) he⟩
def notB (k : Bool) : M Bool := ret (!k)
theorem tv_not (ha : Tv X a ρ ct) : Tv X (.UnaryOp .Not a pos) ρ (bnd ct notB) := ⟨fun m R E xa h => t_not ((ha.run m _ E xa h).mono fun d m1 h => h)⟩
theorem wv_and1 (ha : Tv X a ρ ct) : Wv X (.BoolOp .And [a] pos) ρ ct := ⟨fun m R E xa h => w_and1 (ha.run m R E xa h)⟩
theorem wv_or1 (ha : Tv X a ρ ct) : Wv X (.BoolOp .Or [a] pos) ρ ct := ⟨fun m R E xa h => w_or1 (ha.run m R E xa h)⟩
def andB (c : M Bool) (k : Bool) : M Bool := iteM k c (ret false)
def orB (c : M Bool) (k : Bool) : M Bool := iteM k (ret true) c
theorem wv_and {ct2 : M Bool} {rest : List Expr} (ha : Tv X a ρ ct) (hb : Wv X (.BoolOp .And (b :: rest) pos) ρ ct2) : Wv X (.BoolOp .And (a :: b :: rest) pos) ρ (bnd ct (andB ct2)) := ⟨fun m R E xa h =>
  w_and ((ha.run m _ E xa h).mono fun k m1 h1 => ⟨fun e => hb.run m1 R E xa (h1.1 e), fun e => h1.2 e⟩)⟩
theorem wv_or {ct2 : M Bool} {rest : List Expr} (ha : Tv X a ρ ct) (hb : Wv X (.BoolOp .Or (b :: rest) pos) ρ ct2) : Wv X (.BoolOp .Or (a :: b :: rest) pos) ρ (bnd ct (orB ct2)) := ⟨fun m R E xa h =>
  w_or ((ha.run m _ E xa h).mono fun k m1 h1 => ⟨fun e => h1.1 e, fun e => hb.run m1 R E xa (h1.2 e)⟩)⟩
theorem tv_w (ha : Wv X a ρ ct) : Tv X a ρ ct := ⟨fun m R E xa h => t_w (ha.run m R E xa h)⟩
/-- and, or, not as values: bools ahead of the last -/
def andM (c : M D) (d : D) : M D := fun m R E => ∃ k, d = .bl k ∧ iteM k c (ret (.bl false)) m R E
def orM (c : M D) (d : D) : M D := fun m R E => ∃ k, d = .bl k ∧ iteM k (ret (.bl true)) c m R E
def notM (d : D) : M D := fun m R _ => ∃ k, d = .bl k ∧ R (.bl (!k)) m
theorem ev_one {op : BoolOp} (ha : Ev X a ρ ca) : Ev X (.BoolOp op [a] pos) ρ ca := ⟨fun m R E xa h => x_one (ha.run m R E xa h)⟩
theorem ev_and {rest : List Expr} (ha : Ev X a ρ ca) (hb : Ev X (.BoolOp .And (b :: rest) pos) ρ cb) : Ev X (.BoolOp .And (a :: b :: rest) pos) ρ (bnd ca (andM cb)) := ⟨fun m R E xa h =>
  x_and ((ha.run m _ E xa h).mono fun d m1 ⟨k, ek, h1⟩ => ⟨k, ek, fun e => hb.run m1 R E xa (h1.1 e), fun e => h1.2 e⟩)⟩
theorem ev_or {rest : List Expr} (ha : Ev X a ρ ca) (hb : Ev X (.BoolOp .Or (b :: rest) pos) ρ cb) : Ev X (.BoolOp .Or (a :: b :: rest) pos) ρ (bnd ca (orM cb)) := ⟨fun m R E xa h =>
  x_or ((ha.run m _ E xa h).mono fun d m1 ⟨k, ek, h1⟩ => ⟨k, ek, fun e => h1.1 e, fun e => hb.run m1 R E xa (h1.2 e)⟩)⟩
theorem ev_if (ht : Tv X t ρ ct) (ha : Ev X a ρ ca) (hb : Ev X b ρ cb) : Ev X (.IfExp t a b pos) ρ (bnd ct fun k => iteM k ca cb) := ⟨fun m R E xa h =>
  x_if ((ht.run m _ E xa h).mono fun k m1 h1 => ⟨fun e => ha.run m1 R E xa (h1.1 e), fun e => hb.run m1 R E xa (h1.2 e)⟩)⟩
theorem eva_nil : EvA X [] ρ (ret []) := ⟨fun m R E _ h => a_nil h⟩
theorem eva_cons (h1 : Ev X e ρ c) (h2 : EvA X es ρ cs) (hs : starEach (e :: es) X.env = (false, eval e X.env) :: starEach es X.env := by rfl) : EvA X (e :: es) ρ (bnd c fun d => bnd cs fun ds => ret (d :: ds)) := ⟨fun m R E xa h =>
  a_cons ((h1.run m _ E xa h).mono fun d m1 h => (h2.run m1 _ E xa h).mono fun ds m2 h => h) hs⟩
theorem ev_tup {x1 : Nat} (h : EvA X es ρ cs) : Ev X (.Tuple es x1 pos) ρ (bnd cs mkT) := ⟨fun m R E xa k => x_tup (h.run m _ E xa k)⟩
theorem ev_lst (h : EvA X es ρ cs) : Ev X (.List es pos) ρ (bnd cs mkL) := ⟨fun m R E xa k => x_lst (h.run m _ E xa k)⟩
theorem ev_lstM (h : EvA X es ρ cs) : Ev X (.List es pos) ρ (bnd cs newL) := ⟨fun m R E xa k => x_lstM (h.run m _ E xa k)⟩
theorem ev_ix (hu : X.A.units + 64 < cLine) (ha : Ev X a ρ ca) (hb : Ev X b ρ cb) (hs : PlainIx b := by intro _ _; rfl) : Ev X (.Subscript a b pos) ρ (bnd ca fun x => bnd cb fun y => ixM x y) := ⟨fun m R E xa h =>
  x_ix ((ha.run m _ E xa h).mono fun d1 m1 h1 => (hb.run m1 _ E xa h1).mono fun d2 m2 h2 => ixM_ok hu h2) hs⟩
def intO (d : D) : M (Option Int) := fun m R _ => match d with
  | .int i => R (some i) m
  | _ => False
theorem evo_none : EvO X none ρ (ret none) := ⟨fun m R E _ h => h⟩
theorem evo_some (h : Ev X e ρ c) : EvO X (some e) ρ (bnd c intO) := ⟨fun m R E xa k => (h.run m _ E xa k).mono fun d m1 h => by
  cases d <;> try exact h.elim
  exact ⟨_, rfl, h⟩⟩
end
end DL


namespace DL
open PySem PySem.Spec PySem.Calls PyProof.Rows L2 RZ

/-! ### calls -/
section
variable {X : CD} {e a b t : Expr} {es : List Expr} {kws : List Keyword} {ρ : Rn} {m : Led} {R : D → Led → Prop} {E : XR} {p pos p2 : Pos} {c ca cb : M D} {cs : M (List D)} {x : Str} {k n : Nat} {dd : List D} {sp : SpX} {mg : Str → Option Value} {P : Program} {w : World} {K : Frag} {base : Heap} {ks : List Str} {gD : List D → List D}
theorem x_callE (G : KnowsX X.prog X.w X.K X.mg X.base k x n dd sp) (hr : Room k X.A) (xa : XA X ρ E) (h : AX X (e :: es) ρ m fun ds m1 => sp (ds ++ dd) m1 R E) (hg : Gl X x)
    (hdb : (x == ("__debug__" : Str)) = false) (he : starEach (e :: es) X.env = (false, eval e X.env) :: starEach es X.env) (hpl : (backTo pos (starEach es X.env)).any (·.1) = false) :
    EX X (.Call (.Name x p) (e :: es) [] pos) ρ m R := .mk fun F σ H en at_ => by
  obtain ⟨f, fd, ps, dsv, dvs, FO, hm, hk, hb, hv, hdd, hl⟩ := G.fn
  refine SE.of (pe_callSD (E := WE (WD X.toCx F m H X.xq)) FO hr hg hm hk hb hv (fun σ => passAt at_.tk σ) (pa_SA (es := e :: es)) hdb he hpl) ?_
  refine h.go en at_ fun vs ds F1 m1 H1 s1 en1 q r => ?_
  exact ⟨F1, m1, ds ++ dd, R, E, q.append (hdd F1), s1.st.at2, r, fun d m2 v F2 H2 rd st qd => ⟨d, F2, m2, s1.trans st, qd, rd⟩,
    fun nm C fd' F2 m2 H2 d xr hC st fdd => ⟨nm, C, fd', ρ, F2, m2, hC, rfl, s1.trans st, en1.mono st.ex, fdd, xa _ _ _ xr⟩⟩
theorem ev_call (G : KnowsX P w K mg base k x n [] sp) (hr : Room k X.A) (h : EvA X (e :: es) ρ cs) (hX : X.prog = P ∧ X.w = w ∧ X.K = K ∧ X.mg = mg ∧ X.base = base := by exact ⟨rfl, rfl, rfl, rfl, rfl⟩) (hg : Gl X x := by rfl)
    (hdb : (x == ("__debug__" : Str)) = false := by decide) (he : starEach (e :: es) X.env = (false, eval e X.env) :: starEach es X.env := by rfl) (hpl : (backTo pos (starEach es X.env)).any (·.1) = false := by rfl) :
    Ev X (.Call (.Name x p) (e :: es) [] pos) ρ (bnd cs sp) := ⟨fun m R E xa k => by
  obtain ⟨rfl, rfl, rfl, rfl, rfl⟩ := hX
  exact x_callE G hr xa ((h.run m _ E xa k).mono fun ds m1 h => by rw [List.append_nil]; exact h) hg hdb he hpl⟩
structure EvK (X : CD) (kws : List Keyword) (ρ : Rn) (c : M (List D)) : Prop where
  run : ∀ m R E, XA X ρ E → c m R E → KX X kws ρ m R
theorem KX.mono {R R' : List D → Led → Prop} (h : KX X kws ρ m R) (q : ∀ d m', R d m' → R' d m') : KX X kws ρ m R' := .mk fun F σ H en a => (h.run F σ H en a).mono fun v H1 ⟨d, F1, m1, s, k, r⟩ => ⟨d, F1, m1, s, k, q d m1 r⟩
def kwM (n : Nat) (gD : List D → List D) (sp : SpX) (ds : List D) : M D := fun m R E => ds.length = n ∧ sp (gD ds) m R E
/-! built-ins -/
theorem ev_blt {id : String} {f : List D → M D} (hm : mg x = none) (hv : bootBuiltins x = some (.builtin id)) (ok : ∀ ds m R E, f ds m R E → BX X (.builtin id) ds m R) (h : EvA X (e :: es) ρ cs) (hX : X.mg = mg := by rfl) (hg : Gl X x := by rfl) (hn : x ≠ "__name__" := by decide) (hdb : (x == ("__debug__" : Str)) = false := by decide)
    (he : starEach (e :: es) X.env = (false, eval e X.env) :: starEach es X.env := by rfl) (hpl : (backTo pos (starEach es X.env)).any (·.1) = false := by rfl) : Ev X (.Call (.Name x p) (e :: es) [] pos) ρ (bnd cs f) := ⟨fun m R E xa k =>
  c_cb hm hv ((h.run m _ E xa k).mono fun ds m1 h => ok ds m1 R E h) hX hg hn hdb he hpl⟩
theorem ev_blT {T : String} {f : List D → M D} (hm : mg x = none) (hv : bootBuiltins x = some (.type T)) (ok : ∀ ds m R E, f ds m R E → BX X (.type T) ds m R) (h : EvA X (e :: es) ρ cs) (hX : X.mg = mg := by rfl) (hg : Gl X x := by rfl) (hn : x ≠ "__name__" := by decide) (hdb : (x == ("__debug__" : Str)) = false := by decide)
    (he : starEach (e :: es) X.env = (false, eval e X.env) :: starEach es X.env := by rfl) (hpl : (backTo pos (starEach es X.env)).any (·.1) = false := by rfl) : Ev X (.Call (.Name x p) (e :: es) [] pos) ρ (bnd cs f) := ⟨fun m R E xa k =>
  c_ct hm hv ((h.run m _ E xa k).mono fun ds m1 h => ok ds m1 R E h) hX hg hn hdb he hpl⟩
end
def lenM (ds : List D) : M D := fun m R E => match ds with
  | [.tup xs] => R (.int (xs.length : Nat)) m
  | [.str z] => z.length ≤ 100000 ∧ R (.int (z.length : Nat)) m
  | [.dI ks _] => R (.int (ks.length : Nat)) m
  | [.ref a] => (∃ (n : Nat) (ds : List D), m[n]? = some (a, .lst ds) ∧ R (.int (ds.length : Nat)) m) ∨ ∃ (n : Nat) (ks : List (List Int)) (ds : List D), m[n]? = some (a, .dI ks ds) ∧ R (.int (ks.length : Nat)) m
  | [d] => lstM d m (fun xs m' => R (.int (xs.length : Nat)) m') E
  | _ => False
def absM (ds : List D) : M D := fun m R _ => match ds with
  | [.int i] => R (.int (i.natAbs : Int)) m
  | _ => False
def maxM (ds : List D) : M D := fun m R E => match ds with
  | [.int i, .int j] => R (.int (max i j)) m
  | [d] => lstM d m (fun xs m' => ∃ ns : List Int, xs = ns.map D.int ∧ 0 < ns.length ∧ ∀ i, i ∈ ns → (∀ y ∈ ns, y ≤ i) → R (.int i) m') E
  | _ => False
def minM (ds : List D) : M D := fun m R E => match ds with
  | [.int i, .int j] => R (.int (min i j)) m
  | [d] => lstM d m (fun xs m' => ∃ ns : List Int, xs = ns.map D.int ∧ 0 < ns.length ∧ ∀ i, i ∈ ns → (∀ y ∈ ns, i ≤ y) → R (.int i) m') E
  | _ => False
def intM (ds : List D) : M D := fun m R _ => match ds with
  | [.int i] => R (.int i) m
  | [.bl c] => R (.int (if c then 1 else 0)) m
  | _ => False
def listM (ds : List D) : M D := fun m R E => match ds with
  | [.tup xs] => R (.lst xs) m
  | [.lsk xs] => R (.lst xs) m
  | [.dI ks _] => R (.lst (ks.map keyD)) m
  | [.ref a] => (∃ (n : Nat) (ds : List D), m[n]? = some (a, .lst ds) ∧ R (.lst ds) m) ∨ ∃ (n : Nat) (ks : List (List Int)) (ds : List D), m[n]? = some (a, .dI ks ds) ∧ R (.lst (ks.map keyD)) m
  | [d] => lstM d m (fun xs m' => R (.lst xs) m') E
  | _ => False
/-- list(x), to be changed -/
def listMM (ds : List D) : M D := fun m R E => match ds with
  | [.tup xs] => ∀ p, R (.ref p) (m ++ [(p, .lst xs)])
  | [d] => lstM d m (fun xs m' => ∀ p, R (.ref p) (m' ++ [(p, .lst xs)])) E
  | _ => False
def tupleM (ds : List D) : M D := fun m R E => match ds with
  | [.tup xs] => R (.tup xs) m
  | [d] => lstM d m (fun xs m' => R (.tup xs) m') E
  | _ => False
def sumM (ds : List D) : M D := fun m R E => match ds with
  | [d] => lstM d m (fun xs m' => ∃ ns : List Int, xs = ns.map D.int ∧ R (.int ns.sum) m') E
  | _ => False
def allM (ds : List D) : M D := fun m R E => match ds with
  | [d] => lstM d m (fun xs m' => ∃ ns : List Bool, xs = ns.map D.bl ∧ R (.bl (ns.all id)) m') E
  | _ => False
def anyM (ds : List D) : M D := fun m R E => match ds with
  | [d] => lstM d m (fun xs m' => ∃ ns : List Bool, xs = ns.map D.bl ∧ R (.bl (ns.any id)) m') E
  | _ => False
/-- dict(x): of a list of pairs, of a dict -/
def dictG (b : Bool) (ds : List D) : M D := fun m R E => match ds with
  | [d] => (∃ kvs : List (List Int × D), LstV m d (kvs.map pairD) ∧ (kvs.map (·.1)).Nodup ∧ kvs.length ≤ 100000 ∧ RNew R m (kvs.map (·.1)) (kvs.map (·.2)) b) ∨ (∃ ks vs, DicV m d ks vs ∧ (ks.map hI).Nodup ∧ RNew R m ks vs b) ∨ (b = false ∧ ∃ kvs : List (Int × D), LstV m d (kvs.map pairK) ∧ (kvs.map (·.1)).Nodup ∧ R (.dK (kvs.map fun p => .inl p.1) (kvs.map (·.2))) m)
  | _ => False
abbrev dictM := dictG false
abbrev dictMM := dictG true
/-- sorted(x): tuples of ints, ints -/
def sortG (b : Bool) (ds : List D) : M D := fun m R E => match ds with
  | [d] => (∃ ks : List (List Int), LstV m d (ks.map keyD) ∧ SrtOk ks ∧ ∀ ks' : List (List Int), ks'.Perm ks → ks'.Pairwise (fun a c => lexI c a = false) → RNewL R m (ks'.map keyD) b) ∨
    ∃ ns : List Int, (LstV m d (ns.map D.int) ∨ d = .tup (ns.map D.int)) ∧ ∀ ns' : List Int, ns'.Perm ns → ns'.Pairwise (· ≤ ·) → RNewL R m (ns'.map D.int) b
  | _ => False
abbrev sortedM := sortG false
/-- isinstance of the plain kinds -/
def kinds : List String := ["NoneType", "bool", "int", "str", "list", "tuple"]
def tyNames : List String := ["int", "bool", "list", "tuple", "dict", "str"]
def isiD (t n : String) : Bool := t == n || (t == "bool" && n == "int")
def isiM (ds : List D) : M D := fun m R E => match ds with
  | [.ref a, .ty n] => (∃ (i : Nat) (xs : List D), m[i]? = some (a, .lst xs)) ∧ n ∈ tyNames ∧ R (.bl (isiD "list" n)) m
  | [d, .ty n] => ∃ t, tyD d = some t ∧ n ∈ tyNames ∧ R (.bl (isiD t n)) m
  | _ => False
/-- isinstance, with dicts, instances of the classes cs, and tuples of types -/
def kinds2 : List String := ["NoneType", "bool", "int", "str", "list", "tuple", "dict"]
def isiO (cs : List Str) (ds : List D) : M D := fun m R E => match ds with
  | [d, .ty n] => n ∈ tyNames ∧ ((∃ t ∈ kinds2, KindD m d t ∧ R (.bl (isiD t n)) m) ∨ ∃ cn ∈ cs, ∃ ns vs, ObjV m d cn ns vs ∧ R (.bl false) m)
  | [d, .cls cn] => cn ∈ cs ∧ ((∃ t ∈ kinds2, KindD m d t ∧ R (.bl false) m) ∨ ∃ ns vs, ObjV m d cn ns vs ∧ R (.bl true) m)
  | [d, .tup ts] => ∃ nn : List String, ts = nn.map .ty ∧ (∀ n ∈ nn, n ∈ tyNames) ∧ ((∃ t ∈ kinds2, KindD m d t ∧ R (.bl (nn.any (isiD t))) m) ∨ ∃ cn ∈ cs, ∃ ns vs, ObjV m d cn ns vs ∧ R (.bl false) m)
  | _ => False
section
variable {X : CD}
theorem lenM_ok (ds : List D) (m R E) (h : lenM ds m R E) : BX X (.builtin "len") ds m R := by
  unfold lenM at h
  split at h
  · exact b_lenT h
  · exact b_lenS h.1 h.2
  · exact b_lenD (.inl rfl) h
  · rcases h with ⟨n, ds, h1, h2⟩ | ⟨n, ks, ds, h1, h2⟩
    · exact b_len (.inr ⟨n, _, rfl, h1⟩) h2
    · exact b_lenD (.inr ⟨n, _, rfl, h1⟩) h2
  · obtain ⟨xs, h1, h2⟩ := lstM_v h
    exact b_len h1 h2
  · exact h.elim
theorem absM_ok (ds : List D) (m R E) (h : absM ds m R E) : BX X (.builtin "abs") ds m R := by
  unfold absM at h
  split at h
  · exact b_abs h
  · exact h.elim
theorem maxM_ok (hc : X.calm = true := by rfl) (ds : List D) (m R E) (h : maxM ds m R E) : BX X (.builtin "max") ds m R := by
  unfold maxM at h
  split at h
  · exact b_max2 h hc
  · obtain ⟨xs, h1, ns, rfl, h2, h3⟩ := lstM_v h
    exact b_maxL hc h1 h2 h3
  · exact h.elim
theorem intM_ok (ds : List D) (m R E) (h : intM ds m R E) : BX X (.type "int") ds m R := by
  unfold intM at h
  split at h
  · exact b_int h
  · exact b_intB h
  · exact h.elim
theorem listM_ok (hc : X.calm = true := by rfl) (ds : List D) (m R E) (h : listM ds m R E) : BX X (.type "list") ds m R := by
  unfold listM at h
  split at h
  · exact b_listT h
  · exact b_listK h
  · exact b_listD (b := false) hc (.inl rfl) h
  · rcases h with ⟨n, ds, h1, h2⟩ | ⟨n, ks, ds, h1, h2⟩
    · exact b_list (.inr ⟨n, _, rfl, h1⟩) h2
    · exact b_listD (b := false) hc (.inr ⟨n, _, rfl, h1⟩) h2
  · obtain ⟨xs, h1, h2⟩ := lstM_v h
    exact b_list h1 h2
  · exact h.elim
theorem allM_ok (hc : X.calm = true := by rfl) (ds : List D) (m R E) (h : allM ds m R E) : BX X (.builtin "all") ds m R := by
  unfold allM at h
  split at h
  · obtain ⟨xs, h1, ns, rfl, h2⟩ := lstM_v h
    exact b_all h1 h2 hc
  · exact h.elim
end

/-! ### what is walked -/
section
variable {X : CD} {a b e tg it : Expr} {ρ : Rn} {p pos tpos : Pos} {mg : Str → Option Value} {c ca cb : M D}
def seqM (d : D) : M (List D) := fun m R _ => match d with
  | .lst ds => R ds m
  | .tup ds => R ds m
  | .dI ks _ => R (ks.map keyD) m
  | _ => False
theorem iv_seq (h : Ev X it ρ c) : Iv X tg it ρ (bnd c seqM) := ⟨fun m R E xa k => ix_seqD ((h.run m _ E xa k).mono fun d m1 h => by
  cases d <;> try exact h.elim
  · exact ⟨_, .inl rfl, h⟩
  · exact ⟨_, .inr (.inl rfl), h⟩
  · exact ⟨_, .inr (.inr ⟨_, _, rfl, rfl⟩), h⟩)⟩
def rngM (d : D) : M (List D) := fun m R _ => match d with
  | .int j => -100000 ≤ j ∧ j ≤ 100000 ∧ R (rangeD 0 j.toNat) m
  | _ => False
theorem iv_range1 (hm : mg "range" = none) (h : Ev X a ρ c) (hX : X.mg = mg := by rfl) (hg : Gl X "range" := by rfl) (hs : starEach [a] X.env = [(false, eval a X.env)] := by rfl) : Iv X tg (.Call (.Name "range" p) [a] [] pos) ρ (bnd c rngM) := ⟨fun m R E xa k => j_range1 hm ((h.run m _ E xa k).mono fun d m1 h => by
  cases d <;> try exact h.elim
  exact ⟨_, rfl, h⟩) hX hg hs⟩
def rngM2 (d d2 : D) : M (List D) := fun m R _ => match d, d2 with
  | .int i, .int j => (-100000 ≤ i ∧ i ≤ 100000 ∧ -100000 ≤ j ∧ j ≤ 100000) ∧ R (rangeD i (j - i).toNat) m
  | _, _ => False
def zipM (d d2 : D) : M (List D) := fun m R _ => match d, d2 with
  | .lst as, .lst bs => R (zipD as bs) m
  | .tup as, .tup bs => R (zipD as bs) m
  | _, _ => False
def enumM (d : D) : M (List D) := fun m R _ => match d with
  | .lst as => R (enumD as) m
  | .tup as => R (enumD as) m
  | _ => False
end
end DL


namespace DL
open PySem PySem.Spec PySem.Calls PyProof.Rows L2 RZ

/-! ### comprehensions -/
def NoX : XR := fun _ _ _ => False
def compM (f : D → M (Option D)) : List D → List D → M (List D)
  | [], acc => ret acc
  | d :: ds, acc => fun m R E => f d m (fun o m' => match o with
    | some z => acc.length < 100000 ∧ compM f ds (acc ++ [z]) m' R E
    | none => compM f ds acc m' R E) NoX
def someM (d : D) : M (Option D) := ret (some d)
def lsM (ds : List D) : M D := ret (.lst ds)
def lsMM (ds : List D) : M D := fun m R _ => ∀ p, R (.ref p) (m ++ [(p, .lst ds)])
def un2 (d : D) (k : D → D → M (Option D)) : M (Option D) := fun m R E => ∃ a b, d = .tup [a, b] ∧ k a b m R E
section
variable {X : CD} {elt it t : Expr} {scope : Scope} {ifs : List Expr} {ρ : Rn} {pos py p0 p1 p2 px spos : Pos} {y z x : Str} {i j k n0 : Nat} {ci : M (List D)} {f : D → M (Option D)} {celt : D → M D} {ct : D → M Bool} {celt2 : D → D → M D} {ct2 : D → D → M Bool} {ρ2 : D → Rn} {ρ3 : D → D → Rn}
structure Cv (X : CD) (scope : Scope) (ifs : List Expr) (elt : Expr) (y : Str) (j : Nat) (ρ : Rn) (f : D → M (Option D)) : Prop where
  run : ∀ (d : D) (m : Led) (R : Option D → Led → Prop), f d m R NoX → ∃ ρ2, SetAt ρ j y d ρ2 ∧ ∀ (s : Shared) (H0 : Hp) (C : Addr) (cl : List (Str × Addr)) (fp : List Addr),
    match ifs with
    | [] => EX (X.blk s H0 scope (compEnvC scope cl C X.env) fp) elt ρ2 m fun z m3 => R (some z) m3
    | [c] => TX (X.blk s H0 scope (compEnvC scope cl C X.env) fp) c ρ2 m fun k m2 => (k = true → ∀ (s : Shared) (H0 : Hp) (C : Addr) (cl : List (Str × Addr)) (fp : List Addr), EX (X.blk s H0 scope (compEnvC scope cl C X.env) fp) elt ρ2 m2 fun z m3 => R (some z) m3) ∧ (k = false → R none m2)
    | _ => False
structure CvP (X : CD) (scope : Scope) (ifs : List Expr) (elt : Expr) (y : Str) (j : Nat) (z : Str) (k : Nat) (ρ : Rn) (f : D → M (Option D)) : Prop where
  run : ∀ (d : D) (m : Led) (R : Option D → Led → Prop), f d m R NoX → ∃ d1 d2 ρ1 ρ2, d = .tup [d1, d2] ∧ SetAt ρ j y d1 ρ1 ∧ SetAt ρ1 k z d2 ρ2 ∧ ∀ (s : Shared) (H0 : Hp) (C : Addr) (cl : List (Str × Addr)) (fp : List Addr),
    match ifs with
    | [] => EX (X.blk s H0 scope (compEnvC scope cl C X.env) fp) elt ρ2 m fun z m3 => R (some z) m3
    | [c] => TX (X.blk s H0 scope (compEnvC scope cl C X.env) fp) c ρ2 m fun k m2 => (k = true → ∀ (s : Shared) (H0 : Hp) (C : Addr) (cl : List (Str × Addr)) (fp : List Addr), EX (X.blk s H0 scope (compEnvC scope cl C X.env) fp) elt ρ2 m2 fun z m3 => R (some z) m3) ∧ (k = false → R none m2)
    | _ => False
theorem cv0 (hset : ∀ d, SetAt ρ j y d (ρ2 d)) (he : ∀ d s H0 C cl fp, Ev (X.blk s H0 scope (compEnvC scope cl C X.env) fp) elt (ρ2 d) (celt d)) : Cv X scope [] elt y j ρ fun d => bnd (celt d) someM :=
  ⟨fun d m R h => ⟨ρ2 d, hset d, fun s H0 C cl fp => (he d s H0 C cl fp).run m _ NoX (fun _ _ _ z => z) h⟩⟩
theorem drop_at {α : Type} {xs : List α} {i : Nat} {x : α} (h : xs[i]? = some x) : xs.drop i = x :: xs.drop (i + 1) := by
  obtain ⟨hl, e⟩ := List.getElem?_eq_some_iff.mp h
  rw [List.drop_eq_getElem_cons hl, e]
theorem Cv.I (hc : Cv X scope ifs elt y j ρ f) {ds : List D} {m : Led} {R : List D → Led → Prop} {E : XR} (h : compM f ds [] m R E) : CompI X scope ifs elt y j ρ R ds m := by
  refine ⟨fun i acc m' => compM f (ds.drop i) acc m' R E, h, fun i d acc m' hd hI => ?_, fun acc m' hI => ?_⟩
  · dsimp only at hI
    rw [drop_at hd] at hI
    obtain ⟨ρ2, h1, h2⟩ := hc.run d m' _ hI
    refine ⟨ρ2, h1, fun s H0 C cl fp => ?_⟩
    have h5 := h2 s H0 C cl fp
    rcases ifs with _ | ⟨c, _ | ⟨_, _⟩⟩ <;> exact h5
  · dsimp only at hI
    rw [List.drop_length] at hI
    exact hI
theorem CvP.I (hc : CvP X scope ifs elt y j z k ρ f) {ds : List D} {m : Led} {R : List D → Led → Prop} {E : XR} (h : compM f ds [] m R E) : CompP X scope ifs elt y j z k ρ R ds m := by
  refine ⟨fun i acc m' => compM f (ds.drop i) acc m' R E, h, fun i d acc m' hd hI => ?_, fun acc m' hI => ?_⟩
  · dsimp only at hI
    rw [drop_at hd] at hI
    obtain ⟨d1, d2, ρ1, ρ2, h1, h2, h3, h4⟩ := hc.run d m' _ hI
    refine ⟨d1, d2, ρ1, ρ2, h1, h2, h3, fun s H0 C cl fp => ?_⟩
    have h5 := h4 s H0 C cl fp
    rcases ifs with _ | ⟨c, _ | ⟨_, _⟩⟩ <;> exact h5
  · dsimp only at hI
    rw [List.drop_length] at hI
    exact hI
theorem ev_lc (hj : SlotAt ρ j y) (hi : Iv X (.Name y py) it ρ ci) (hcv : Cv X scope ifs elt y j ρ f) (hl1 : ifs.length ≤ 1 := by decide) (hok : blkC X.N X.env.scope scope [(y, j)] = true := by kernel_rfl)
    (hx : ∀ cl C, Loc (compEnvC scope cl C X.env).scope y := by intro _ _; first | exact Or.inl rfl | exact Or.inr rfl) (hf : ∀ cl C, (scope.names.lookup y == some .cell) = true ∨ (compEnvC scope cl C X.env).scope.names.lookup y = some .local := by intro _ _; first | exact .inl rfl | exact .inr rfl)
    (hc : X.calm = true := by rfl) (hs : ∀ x, foldedSetIterable it X.env x = pure x := by intro _; rfl) : Ev X (.ListComp elt [⟨.Name y py, it, ifs, 0⟩] scope pos) ρ (bnd ci fun ds => bnd (compM f ds []) lsM) := ⟨fun m R E xa h =>
  x_lc hj ((hi.run m _ E xa h).mono fun ds m1 h => hcv.I h) hl1 hok hx hf hc hs⟩
end

/-! ### blocks -/
inductive Fl (σ τ : Type) where
  | nx (s : σ) | rt (d : D) | bk (t : τ) | ct (t : τ)
inductive Le : Rn → Rn → Prop
  | nil : Le [] []
  | same {q : Str × Option D} {r r' : Rn} : Le r r' → Le (q :: r) (q :: r')
  | drop {x : Str} {o : Option D} {r r' : Rn} : Le r r' → Le ((x, none) :: r) ((x, o) :: r')
theorem Le.names : ∀ {r r' : Rn}, Le r r' → r.map (·.1) = r'.map (·.1)
  | _, _, .nil => rfl
  | _, _, .same h => by rw [List.map_cons, List.map_cons, h.names]
  | _, _, .drop h => by rw [List.map_cons, List.map_cons, h.names]
theorem Le.get : ∀ {r r' : Rn}, Le r r' → ∀ (i : Nat) (d : D), (r.map (·.2))[i]? = some (some d) → (r'.map (·.2))[i]? = some (some d)
  | _, _, .nil, i, d, h => h
  | _, _, .same h, 0, d, e => e
  | _, _, .same h, i + 1, d, e => by simpa using h.get i d (by simpa using e)
  | _, _, .drop h, 0, d, e => by simp at e
  | _, _, .drop h, i + 1, d, e => by simpa using h.get i d (by simpa using e)
theorem Env.le {X : Cx} {F : Hp} {σ : L2.St} {ρ ρ' : Rn} (e : Env X F σ ρ) (h : Le ρ' ρ) : Env X F σ ρ' :=
  ⟨e.nd, by rw [h.names]; exact e.nm, ⟨by rw [List.length_map]; have := congrArg List.length h.names; simp only [List.length_map] at this; rw [this, e.ev.len, List.length_map], fun i d q => e.ev.get i d (h.get i d q)⟩⟩
section
variable {X : CD} {sts : List Stmt} {st : Stmt} {ρ ρ' : Rn} {m : Led} {E : EndsD} {e tg : Expr} {d : D}
theorem SX.le (h : SX X sts ρ' m E) (l : Le ρ' ρ) : SX X sts ρ m E := .mk fun F σ H en at_ => h.run F σ H (en.le l) at_
theorem TX.le {R : Bool → Led → Prop} (h : TX X e ρ' m R) (l : Le ρ' ρ) : TX X e ρ m R := .mk fun F σ H en at_ => h.run F σ H (en.le l) at_
theorem OX.mono {f : Value → Value → Sem Value} {d1 d2 : D} {R R' : D → Led → Prop} (h : OX X f d1 d2 m R) (k : ∀ d m, R d m → R' d m) : OX X f d1 d2 m R' := .mk fun F σ H x y pins s v u q1 q2 at_ I rx ry => thn (h.run F σ H x y pins s v u q1 q2 at_ I rx ry) fun w s3 ⟨v3, H3, I3, r3, d, F3, m3, st3, q3, kk⟩ => ⟨v3, H3, I3, r3, d, F3, m3, st3, q3, k _ _ kk⟩
theorem StX.mono {d1 d2 d3 : D} {R R' : Led → Prop} (h : StX X d1 d2 d3 m R) (k : ∀ m, R m → R' m) : StX X d1 d2 d3 m R' := by
  obtain ⟨⟨t, pt, r⟩⟩ := h
  exact ⟨_, PSet.any, fun F H o i v q1 q2 q3 at_ => ⟨t, _, pt, r F H o i v q1 q2 q3 at_, fun H' ⟨F2, m2, s, rr⟩ => ⟨F2, m2, s, k _ rr⟩⟩⟩
theorem GX.le {R : Rn → Led → Prop} (h : GX X tg d ρ' m R) (l : Le ρ' ρ) : GX X tg d ρ m R := .mk fun F σ H v en at_ q => h.run F σ H v (en.le l) at_ q
theorem GX.mono {R R' : Rn → Led → Prop} (h : GX X tg d ρ m R) (k : ∀ ρ m, R ρ m → R' ρ m) : GX X tg d ρ m R' := .mk fun F σ H v en at_ q => (h.run F σ H v en at_ q).mono fun σ' H' ⟨ρ2, F2, m2, s, e, r⟩ => ⟨ρ2, F2, m2, s, e, k _ _ r⟩
end
def EF {σ τ : Type} (en : σ → Option Rn) (el : τ → Rn) (R : Fl σ τ → Led → Prop) : EndsD :=
  { nx := fun ρ' m' => ∃ s r, en s = some r ∧ Le r ρ' ∧ R (.nx s) m', rt := fun d m' => R (.rt d) m', bk := fun ρ' m' => ∃ t, Le (el t) ρ' ∧ R (.bk t) m', ct := fun ρ' m' => ∃ t, Le (el t) ρ' ∧ R (.ct t) m' }
structure BF (X : CD) (sts : List Stmt) (ρ : Rn) {σ τ : Type} (en : σ → Option Rn) (el : τ → Rn) (c : M (Fl σ τ)) : Prop where
  run : ∀ m R E, XF X E → c m R E → SX X sts ρ m (EF en el R)
def seqK {σ σ' τ : Type} (k : σ → M (Fl σ' τ)) : Fl σ τ → M (Fl σ' τ)
  | .nx s => k s
  | .rt d => ret (.rt d)
  | .bk t => ret (.bk t)
  | .ct t => ret (.ct t)
def seqF {σ σ' τ : Type} (c : M (Fl σ τ)) (k : σ → M (Fl σ' τ)) : M (Fl σ' τ) := bnd c (seqK k)
def rtM {σ τ : Type} (d : D) : M (Fl σ τ) := ret (.rt d)
section
variable {X : CD} {sts rest A B body : List Stmt} {ρ ρ' : Rn} {σ τ σ1 : Type} {en : σ → Option Rn} {el : τ → Rn} {e1 : σ1 → Rn} {c ca cb k : M (Fl σ τ)} {ce : M D} {ct : M Bool} {e t tg it : Expr} {pos pos' p2 p3 : Pos} {x y : Str} {i j : Nat} {kd : D → M (Fl σ τ)} {ρd : D → Rn} {d : D}
theorem bf_nil {s : σ} {r : Rn} (h : en s = some r := by rfl) (l : Le r ρ) : BF X [] ρ en el (ret (.nx s)) := ⟨fun m R E _ k => s_nil ⟨s, r, h, l, k⟩⟩
theorem bf_ret (h : Ev X e ρ ce) : BF X (.Return (some e) pos :: rest) ρ en el (bnd ce rtM) := ⟨fun m R E xf k => s_cons (s_ret (h.run m _ E (xf ρ) k))⟩
theorem bf_set (h : Ev X e ρ ce) (hset : ∀ d, SetAt ρ i x d (ρd d)) (hk : ∀ d, BF X rest (ρd d) en el (kd d)) (hx : Loc X.env.scope x := by first | exact Or.inl rfl | exact Or.inr rfl) (hs : swapsWith e (some (.Name x pos')) pos.line X.env = pure false := by rfl)
    (hf : X.fn x = true ∨ X.env.scope.names.lookup x = some .local := by first | exact .inl rfl | exact .inr rfl | assumption) : BF X (.Assign [.Name x pos'] e pos :: rest) ρ en el (bnd ce kd) := ⟨fun m R E xf q =>
  s_cons (s_set ((h.run m _ E (xf ρ) q).mono fun d m1 h1 => ⟨i, ρd d, hset d, (hk d).run m1 R E xf h1⟩) hx hs hf)⟩
/-! if -/
theorem bf_if {ca cb : M (Fl σ1 τ)} {k : σ1 → M (Fl σ τ)} (ht : Tv X t ρ ct) (ha : BF X A ρ (fun s => some (e1 s)) el ca) (hb : BF X B ρ (fun s => some (e1 s)) el cb) (hk : ∀ s, BF X rest (e1 s) en el (k s)) :
    BF X (.If t A B pos :: rest) ρ en el (seqF (bnd ct fun b => iteM b ca cb) k) := ⟨fun m R E xf q => by
  refine s_cons (s_if ((ht.run m _ E (xf ρ) q).mono fun b m1 h1 => ⟨fun eb => ?_, fun eb => ?_⟩))
  · refine (ha.run m1 _ E xf (h1.1 eb)).mono ?_ ?_ ?_ ?_
    · rintro ρ' m' ⟨s, r, e, l, h⟩
      cases e
      exact ((hk s).run m' R E xf h).le l
    · exact fun d m' h => h
    · exact fun ρ' m' h => h
    · exact fun ρ' m' h => h
  · refine (hb.run m1 _ E xf (h1.2 eb)).mono ?_ ?_ ?_ ?_
    · rintro ρ' m' ⟨s, r, e, l, h⟩
      cases e
      exact ((hk s).run m' R E xf h).le l
    · exact fun d m' h => h
    · exact fun ρ' m' h => h
    · exact fun ρ' m' h => h⟩
/-- the branch leaves -/
theorem bf_ifX (ht : Tv X t ρ ct) (ha : BF X A ρ (fun _ : σ => none) el ca) (hk : BF X rest ρ en el k) : BF X (.If t A [] pos :: rest) ρ en el (bnd ct fun b => iteM b ca k) := ⟨fun m R E xf q => by
  refine s_cons (s_if ((ht.run m _ E (xf ρ) q).mono fun b m1 h1 => ⟨fun eb => ?_, fun eb => ?_⟩))
  · refine (ha.run m1 R E xf (h1.1 eb)).mono ?_ ?_ ?_ ?_
    · rintro ρ' m' ⟨s, r, e, l, h⟩
      cases e
    · exact fun d m' h => h
    · exact fun ρ' m' h => h
    · exact fun ρ' m' h => h
  · exact s_nil (hk.run m1 R E xf (h1.2 eb))⟩
end

/-! ### for, while -/
def forF {σ τ : Type} (f : D → σ → M (Fl σ σ)) : List D → σ → M (Fl σ τ)
  | [], s => ret (.nx s)
  | d :: ds, s => bnd (f d s) fun fl => match fl with
    | .nx s' => forF f ds s'
    | .ct s' => forF f ds s'
    | .bk s' => ret (.nx s')
    | .rt d => ret (.rt d)
def whileN {σ τ : Type} (t : σ → M Bool) (f : σ → M (Fl σ σ)) : Nat → σ → M (Fl σ τ)
  | 0, _ => bad
  | n + 1, s => bnd (t s) fun k => iteM k (bnd (f s) fun fl => match fl with
    | .nx s' => whileN t f n s'
    | .ct s' => whileN t f n s'
    | .bk s' => ret (.nx s')
    | .rt d => ret (.rt d)) (ret (.nx s))
def whileF {σ τ : Type} (t : σ → M Bool) (f : σ → M (Fl σ σ)) (s : σ) : M (Fl σ τ) := fun m R E => ∃ n, whileN t f n s m R E
section
variable {X : CD} {rest body : List Stmt} {ρ : Rn} {σ τ σ1 : Type} {en : σ → Option Rn} {el : τ → Rn} {e1 : σ1 → Rn} {e t tg it : Expr} {pos p0 p1 p2 p3 : Pos} {x y z : Str} {i j l n0 : Nat} {d : D} {c : M (Fl σ τ)} {ρ1 : D → Rn} {ρ2 : D → D → Rn} {ρ3 : D → D → D → Rn}
/-- a target, then a block -/
structure BG (X : CD) (tg : Expr) (d : D) (body : List Stmt) (ρ : Rn) {σ τ : Type} (en : σ → Option Rn) (el : τ → Rn) (c : M (Fl σ τ)) : Prop where
  run : ∀ m R E, XF X E → c m R E → GX X tg d ρ m fun ρ2 m2 => SX X body ρ2 m2 (EF en el R)
theorem bg_name {ρ' : Rn} (hset : SetAt ρ i x d ρ') (hb : BF X body ρ' en el c) (hx : Loc X.env.scope x := by first | exact Or.inl rfl | exact Or.inr rfl) (hf : X.fn x = true ∨ X.env.scope.names.lookup x = some .local := by first | exact .inl rfl | exact .inr rfl | assumption) : BG X (.Name x pos) d body ρ en el c := ⟨fun m R E xf q =>
  g_name hset (hb.run m R E xf q) hx hf⟩
def ut2 {α : Type} (d : D) (k : D → D → M α) : M α := fun m R E => ∃ a b, d = .tup [a, b] ∧ k a b m R E
def ut3 {α : Type} (d : D) (k : D → D → D → M α) : M α := fun m R E => ∃ a b c, d = .tup [a, b, c] ∧ k a b c m R E
/-- a, b = x, y, both locals -/
theorem bf_par {a b : Expr} {ca cb : M D} {px py pt pt2 : Pos} {kt k2 : Nat} {k : D → D → M (Fl σ τ)} (ha : Ev X a ρ ca) (hb : Ev X b ρ cb) (h1 : ∀ u, SetAt ρ i x u (ρ1 u)) (h2 : ∀ u v, SetAt (ρ1 u) j y v (ρ2 u v)) (hij : i ≠ j) (hk : ∀ u v, BF X rest (ρ2 u v) en el (k u v))
    (hst : starEach [a, b] X.env = (false, eval a X.env) :: starEach [b] X.env := by rfl) (hst2 : starEach [b] X.env = (false, eval b X.env) :: starEach [] X.env := by rfl)
    (hw : swappedStores [.Tuple [.Name x px, .Name y py] kt pt] (.Tuple [a, b] k2 pt2) X.env = pure (some [x, y]) := by rfl) (hx : X.env.scope.names.lookup x = some .local := by rfl) (hy : X.env.scope.names.lookup y = some .local := by rfl) (hc : X.calm = true := by rfl)
    (hs : swapsWithSole [.Tuple [.Name x px, .Name y py] kt pt] (.Tuple [a, b] k2 pt2) pos.line X.env = pure false := by rfl) :
    BF X (.Assign [.Tuple [.Name x px, .Name y py] kt pt] (.Tuple [a, b] k2 pt2) pos :: rest) ρ en el (bnd ca fun u => bnd cb fun v => k u v) := ⟨fun m R E xf q =>
  s_cons (s_par (a_cons ((ha.run m _ E (xf ρ) q).mono fun u m1 h => a_cons ((hb.run m1 _ E (xf ρ) h).mono fun v m2 h => a_nil ⟨u, v, i, j, ρ1 u, ρ2 u v, rfl, h1 u, h2 u v, hij, (hk u v).run m2 R E xf h⟩) hst2) hst) hw hx hy hc hs)⟩
/-- o[i] = v -/
def stM (o i v : D) : M Unit := fun m R _ => match o, i with
  | .ref a, .int i => ∃ (n : Nat) (ds : List D) (j : Nat), m[n]? = some (a, .lst ds) ∧ ixN ds.length i = some j ∧ R () (m.set n (a, .lst (ds.set j v)))
  | .ref a, .tup kd => ∃ (n : Nat) (ks : List (List Int)) (ds : List D) (k : List Int), m[n]? = some (a, .dI ks ds) ∧ kd = k.map .int ∧ ks.length < 100000 ∧ ((∃ j, ks[j]? = some k ∧ R () (m.set n (a, .dI ks (ds.set j v)))) ∨ (k ∉ ks ∧ R () (m.set n (a, .dI (ks ++ [k]) (ds ++ [v])))))
  | _, _ => False
theorem stM_ok {o i v : D} {m : Led} {R : Unit → Led → Prop} {E : XR} (hu : X.A.units + 64 < cLine) (h : stM o i v m R E) : StX X o i v m (R ()) := by
  cases o <;> cases i <;> try exact h.elim
  · obtain ⟨n, ds, j, h1, h2, h3⟩ := h
    exact st_lst h1 h2 h3
  · obtain ⟨n, ks, ds, k, h1, rfl, h2, h3⟩ := h
    exact st_dict hu h1 h2 h3
theorem bf_sub {o ix : Expr} {ce co ci : M D} {k : M (Fl σ τ)} (hu : X.A.units + 64 < cLine) (he : Ev X e ρ ce) (ho : Ev X o ρ co) (hi : Ev X ix ρ ci) (hk : BF X rest ρ en el k) (hs : swapsWithSole [.Subscript o ix p1] e pos.line X.env = pure false := by rfl) (hw : swappedStores [.Subscript o ix p1] e X.env = pure none := by rfl)
    (h1 : (assignEach [.Subscript o ix p1] X.env).map (·.2) = [assign (.Subscript o ix p1) X.env] := by rfl) (ha : ∀ v, assign (.Subscript o ix p1) X.env v = (do
      let ov ← holding [v] (eval o X.env)
      let iv ← holding [v, ov] (eval ix X.env)
      standAt p1
      holding [v, ov, iv] (setItem ov iv v)
      release [v, ov, iv] []) := by intro _; rfl) : BF X (.Assign [.Subscript o ix p1] e pos :: rest) ρ en el (bnd ce fun v => bnd co fun ov => bnd ci fun iv => bnd (stM ov iv v) fun _ => k) := ⟨fun m R E xf q =>
  s_cons (s_asg ((he.run m _ E (xf ρ) q).mono fun v m1 h => g_sub ((ho.run m1 _ E (xf ρ) h).mono fun ov m2 h => (hi.run m2 _ E (xf ρ) h).mono fun iv m3 h => StX.mono (stM_ok hu h) fun m4 h => hk.run m4 R E xf h) ha) hs hw h1)⟩
theorem bf_for {ci : M (List D)} {f : D → σ1 → M (Fl σ1 σ1)} {k : σ1 → M (Fl σ τ)} {s0 : σ1} (hi : Iv X tg it ρ ci) (h0 : Le (e1 s0) ρ) (hb : ∀ d s, BG X tg d body (e1 s) (fun s => some (e1 s)) e1 (f d s)) (hk : ∀ s, BF X rest (e1 s) en el (k s))
    (hc : X.calm = true := by rfl) (hs : ∀ x, foldedSetIterable it X.env x = pure x := by intro _; rfl) : BF X (.For tg it body [] pos :: rest) ρ en el (bnd ci fun ds => seqF (forF f ds s0) k) := ⟨fun m R E xf q => by
  refine s_cons (s_for ((hi.run m _ E (xf ρ) q).mono fun ds m1 h => ?_) hc hs)
  refine ⟨fun i ρ' m' => ∃ s, Le (e1 s) ρ' ∧ seqF (forF f (ds.drop i) s) k m' R E, ⟨s0, h0, h⟩, ?_, ?_⟩
  · rintro i d ρ' m' hd ⟨s, l, hI⟩
    rw [drop_at hd] at hI
    refine GX.mono (((hb d s).run m' _ E xf hI).le l) fun ρ2 m2 hx => hx.mono ?_ ?_ ?_ ?_
    · rintro ρ3 m3 ⟨s', r, e, l', h'⟩
      cases e
      exact ⟨s', l', h'⟩
    · exact fun d m' h => h
    · rintro ρ3 m3 ⟨s', l', h'⟩
      exact ((hk s').run m3 R E xf h').le l'
    · rintro ρ3 m3 ⟨s', l', h'⟩
      exact ⟨s', l', h'⟩
  · rintro ρ' m' ⟨s, l, hI⟩
    rw [List.drop_length] at hI
    exact ((hk s).run m' R E xf hI).le l⟩
theorem bf_while {ct : σ1 → M Bool} {f : σ1 → M (Fl σ1 σ1)} {k : σ1 → M (Fl σ τ)} {s0 : σ1} (ht : ∀ s, Tv X t (e1 s) (ct s)) (h0 : Le (e1 s0) ρ) (hb : ∀ s, BF X body (e1 s) (fun s => some (e1 s)) e1 (f s)) (hk : ∀ s, BF X rest (e1 s) en el (k s)) :
    BF X (.While t body [] pos :: rest) ρ en el (seqF (whileF ct f s0) k) := ⟨fun m R E xf ⟨n, q⟩ => by
  refine s_cons (s_while (fun n ρ' m' => ∃ s, Le (e1 s) ρ' ∧ bnd (whileN ct f n s) (seqK k) m' R E) n ⟨s0, h0, q⟩ ?_)
  rintro n ρ' m' ⟨s, l, hI⟩
  cases n with
  | zero => exact hI.elim
  | succ n =>
    refine TX.mono (((ht s).run m' _ E (xf _) hI).le l) fun kk m1 h1 => ⟨fun ek => ?_, fun ek => ?_⟩
    · refine ((hb s).run m1 _ E xf (h1.1 ek)).le l |>.mono ?_ ?_ ?_ ?_
      · rintro ρ3 m3 ⟨s', r, e, l', h'⟩
        cases e
        exact ⟨n, Nat.lt_succ_self n, s', l', h'⟩
      · exact fun d m' h => h
      · rintro ρ3 m3 ⟨s', l', h'⟩
        exact ((hk s').run m3 R E xf h').le l'
      · rintro ρ3 m3 ⟨s', l', h'⟩
        exact ⟨n, Nat.lt_succ_self n, s', l', h'⟩
    · exact ((hk s).run m1 R E xf (h1.2 ek)).le l⟩
end
end DL


namespace DL
open PySem PySem.Spec PySem.Calls PyProof.Rows L2 RZ

section
variable {X : CD} {elt it t : Expr} {scope : Scope} {ifs : List Expr} {ρ : Rn} {pos py p0 p1 p2 px spos : Pos} {y z x : Str} {i j k n0 : Nat} {ci : M (List D)} {f : D → M (Option D)} {rest : List Stmt} {σ τ : Type} {en : σ → Option Rn} {el : τ → Rn} {kd : D → M (Fl σ τ)} {ρd : D → Rn}
/-! x = [..] -/
theorem CompI.mono {R R' : List D → Led → Prop} {ds : List D} {m : Led} (h : CompI X scope ifs elt y j ρ R ds m) (q : ∀ acc m', R acc m' → R' acc m') : CompI X scope ifs elt y j ρ R' ds m := let ⟨I, a, b, c⟩ := h; ⟨I, a, b, fun acc m' z => q _ _ (c acc m' z)⟩
theorem CompP.mono {R R' : List D → Led → Prop} {ds : List D} {m : Led} (h : CompP X scope ifs elt y j z k ρ R ds m) (q : ∀ acc m', R acc m' → R' acc m') : CompP X scope ifs elt y j z k ρ R' ds m := let ⟨I, a, b, c⟩ := h; ⟨I, a, b, fun acc m' z => q _ _ (c acc m' z)⟩
theorem bf_setLc (hj : SlotAt ρ j y) (hsl : SlotAt ρ i x) (hi : Iv X (.Name y py) it ρ ci) (hcv : Cv X scope ifs elt y j ρ f) (hset : ∀ d, SetAt ρ i x d (ρd d)) (hk : ∀ d, BF X rest (ρd d) en el (kd d))
    (hxl : X.env.scope.names.lookup x = some .local := by rfl) (ha : (scope.names.any fun (n, k) => n == x && (k == .local || k == .cell)) = false := by decide +kernel) (hkk : X.env.scope.kind = .function := by rfl) (hln : (px.line == pos.line) = true := by rfl)
    (hl1 : ifs.length ≤ 1 := by decide) (hok : blkC X.N X.env.scope scope [(y, j)] = true := by kernel_rfl)
    (hx : ∀ cl C, Loc (compEnvC scope cl C X.env).scope y := by intro _ _; first | exact Or.inl rfl | exact Or.inr rfl) (hf : ∀ cl C, (scope.names.lookup y == some .cell) = true ∨ (compEnvC scope cl C X.env).scope.names.lookup y = some .local := by intro _ _; first | exact .inl rfl | exact .inr rfl)
    (hc : X.calm = true := by rfl) (hs : ∀ x, foldedSetIterable it X.env x = pure x := by intro _; rfl) : BF X (.Assign [.Name x px] (.ListComp elt [⟨.Name y py, it, ifs, 0⟩] scope pos) spos :: rest) ρ en el (bnd (bnd ci fun ds => bnd (compM f ds []) lsM) kd) := ⟨fun m R E xf h =>
  s_cons (s_setLc hj hsl ((hi.run m _ E (xf ρ) h).mono fun ds m1 h => (hcv.I h).mono fun acc m' h => ⟨_, hset _, (hk _).run m' R E xf h⟩) hxl ha hkk hln hl1 hok hx hf hc hs)⟩
end
section
variable {X : CD} {e o : Expr} {es : List Expr} {ρ : Rn} {pos apos cpos p p2 pos' np : Pos} {x nm f : Str} {i j k n : Nat} {rest A B body suite : List Stmt} {b₀ : Stmt} {σ τ σ1 : Type} {en : σ → Option Rn} {el : τ → Rn} {e1 : σ1 → Rn} {kd : D → M (Fl σ τ)} {ρd : D → Rn} {ce co : M D} {d : D} {c : M (Fl σ τ)} {ct : M Bool} {t : Expr} {mg : Str → Option Value} {P : Program} {w : World} {K : Frag} {base : Heap} {C : Addr}
/-! xs.append(e) -/
def chkL (d : D) : M Unit := fun m R _ => match d with
  | .ref a => ∃ (n : Nat) (ds : List D), m[n]? = some (a, .lst ds) ∧ R () m
  | _ => False
def appM (d y : D) : M D := fun m R _ => match d with
  | .ref a => ∃ (n : Nat) (ds : List D), m[n]? = some (a, .lst ds) ∧ ds.length < 100000 ∧ R .non (m.set n (a, .lst (ds ++ [y])))
  | _ => False
/-! raise -/
def raiM {α : Type} (nm : Str) (fd : Option (Str × D)) : M α := fun m _ E => E nm fd m
theorem bf_raise0 (G : XK0 P w K mg nm C) (hr : Room 1 X.A) (hX : X.prog = P ∧ X.w = w ∧ X.K = K ∧ X.mg = mg := by exact ⟨rfl, rfl, rfl, rfl⟩) (hc : X.calm = true := by rfl) (hg : Gl X nm := by rfl) (hdb : (nm == ("__debug__" : Str)) = false := by decide) :
    BF X (.Raise (some (.Call (.Name nm p) [] [] pos)) none p2 :: rest) ρ en el (raiM nm none) := ⟨fun m R E xf h => s_cons (c_raise0 G hr (xf ρ _ _ _ h) hX hc hg hdb)⟩
theorem bf_raise1 (G : XK1 P w K mg nm f C) (hr : Room 1 X.A) (he : Ev X e ρ ce) (hX : X.prog = P ∧ X.w = w ∧ X.K = K ∧ X.mg = mg := by exact ⟨rfl, rfl, rfl, rfl⟩) (hc : X.calm = true := by rfl) (hg : Gl X nm := by rfl) (hdb : (nm == ("__debug__" : Str)) = false := by decide)
    (hst : starEach [e] X.env = (false, eval e X.env) :: starEach [] X.env := by rfl) : BF X (.Raise (some (.Call (.Name nm p) [e] [] pos)) none p2 :: rest) ρ en el (bnd ce fun d => raiM nm (some (f, d))) := ⟨fun m R E xf h =>
  s_cons (c_raise1 G hr ((he.run m _ E (xf ρ) h).mono fun d m1 h => xf ρ _ _ _ h) hX hc hg hdb hst)⟩
/-! try: the body is one statement, or ifs of such, so that what is raised finds the names as they are -/
structure BY (X : CD) (sts : List Stmt) (ρ : Rn) {σ τ : Type} (en : σ → Option Rn) (el : τ → Rn) (c : M (Fl σ τ)) : Prop where
  run : ∀ m R E, XA X ρ E → c m R E → SX X sts ρ m (EF en el R)
theorem by_ret (h : Ev X e ρ ce) : BY X (.Return (some e) pos :: rest) ρ en el (bnd ce rtM) := ⟨fun m R E xa k => s_cons (s_ret (h.run m _ E xa k))⟩
/-- the clause's suite returns -/
def noF (t : Empty) : Rn := nomatch t
def upF {σ τ : Type} : Fl Empty Empty → M (Fl σ τ)
  | .rt d => ret (.rt d)
  | _ => bad
def tryM {σ τ : Type} (cls : List (Str × Bool)) (cb : M (Fl σ τ)) (ch : Option (Str × D) → M (Fl Empty Empty)) : M (Fl σ τ) := fun m R E => cb m R (fun nm fd m2 => ∃ b, (nm, b) ∈ cls ∧ (b = true → bnd (ch fd) upF m2 R NoX) ∧ (b = false → E nm fd m2))
theorem bf_try {cls : List (Str × Bool)} {cb : M (Fl σ1 τ)} {ch : M (Fl Empty Empty)} {k : σ1 → M (Fl σ τ)} (hc : ∃ Cc, X.mg x = some (.ref Cc)) (hX : ∀ q ∈ cls, XM X.K X.mg q.1 x q.2)
    (hb : ∀ pn xe q, BY (X.tr pn xe q) body ρ (fun s => some (e1 s)) el cb) (hh : ∀ a oe pn, BF (X.suite a ((a, oe) :: pn)) (b₀ :: suite) ρ (fun _ : Empty => none) noF ch) (hk : ∀ s, BF X rest (e1 s) en el (k s))
    (hs : X.stack = X.env :: X.outer := by rfl) (hf : X.env.frame = some X.env.locals := by rfl) (hg : Gl X x := by rfl) (hdb : (x == ("__debug__" : Str)) = false := by decide) :
    BF X (.Try body [.ExceptHandler (some (.Name x np)) none (b₀ :: suite) pos'] [] [] pos :: rest) ρ en el (seqF (tryM cls cb fun _ => ch) k) := ⟨fun m R E xf q => by
  refine s_cons (s_try hc (fun pn xe => ?_) hs hf hg hdb)
  refine ((hb pn xe _).run m _ _ (fun nm fd m2 h => ?_) q).mono ?_ ?_ ?_ ?_
  · obtain ⟨b, hcl, h1, h2⟩ := h
    refine ⟨b, hX (nm, b) hcl, fun eb a oe pn => ?_, fun eb => xf ρ _ _ _ (h2 eb)⟩
    refine ((hh a oe pn).run m2 _ NoX (fun _ _ _ _ z => z.elim) (h1 eb)).mono ?_ ?_ ?_ ?_
    · rintro ρ' m' ⟨s, r, e, l, h⟩
      cases e
    · exact fun d m' h => h
    · rintro ρ' m' ⟨s, l, h⟩
      exact nomatch s
    · rintro ρ' m' ⟨s, l, h⟩
      exact nomatch s
  · rintro ρ' m' ⟨s, r, e, l, h⟩
    cases e
    exact ((hk s).run m' R E xf h).le l
  · exact fun d m' h => h
  · exact fun ρ' m' h => h
  · exact fun ρ' m' h => h⟩
/-- e.f in such a suite -/
def exfM (f : Str) (fd : Option (Str × D)) : M D := fun m R _ => ∃ v, fd = some (f, v) ∧ R v m
end

/-! ### defs -/
/-- what a def gives: its own lists of the ledger are forgotten -/
def fnR (m : Led) (R : D → Led → Prop) : Fl Unit Empty → Led → Prop
  | .rt d, m' => R d (m'.take m.length)
  | .nx _, m' => R .non (m'.take m.length)
  | _, _ => False
def fnM (c : M (Fl Unit Empty)) : M D := fun m R E => c m (fnR m R) fun nm fd m' => E nm fd (m'.take m.length)
/-- .. are kept -/
def fnRK (R : D → Led → Prop) : Fl Unit Empty → Led → Prop
  | .rt d, m' => R d m'
  | .nx _, m' => R .non m'
  | _, _ => False
def fnK (c : M (Fl Unit Empty)) : M D := fun m R E => c m (fnRK R) E
def sp1 (f : D → M D) : SpX := fun ds => match ds with
  | [a] => f a
  | _ => bad
def sp2 (f : D → D → M D) : SpX := fun ds => match ds with
  | [a, b] => f a b
  | _ => bad
def sp3 (f : D → D → D → M D) : SpX := fun ds => match ds with
  | [a, b, c] => f a b c
  | _ => bad
def sp4 (f : D → D → D → D → M D) : SpX := fun ds => match ds with
  | [a, b, c, d] => f a b c d
  | _ => bad
def sp5 (f : D → D → D → D → D → M D) : SpX := fun ds => match ds with
  | [a, b, c, d, e] => f a b c d e
  | _ => bad
def sp6 (f : D → D → D → D → D → D → M D) : SpX := fun ds => match ds with
  | [a, b, c, d, e, g] => f a b c d e g
  | _ => bad
def allN (N : List Str) (_ : Unit) : Option Rn := some (N.map fun x => (x, none))
theorem Le.all : ∀ {ρ : Rn} {N : List Str}, ρ.map (·.1) = N → Le (N.map fun x => (x, none)) ρ
  | [], _, h => by subst h; exact .nil
  | (x, o) :: r, _, h => by subst h; exact .drop (Le.all rfl)
section
variable {P : Program} {w : World} {K : Frag} {mg : Str → Option Value} {base : Heap} {x qual : Str} {st : Stmt} {f : Addr} {fd : FuncData} {dvs : List V} {N ps : List Str} {k : Nat}
/-- the context of a def's body -/
abbrev XD (P : Program) (w : World) (K : Frag) (mg : Str → Option Value) (base : Heap) (N : List Str) (qual : Str) (st : Stmt) (f : Addr) (cdv : Value) (A : Around) (outer : List PySem.Env) (s : Shared) (H : Hp) (E : XK) (XR : XR) : CD := ⟨cxOf (L2.CX P w) P w K mg base N qual (defScope st) f cdv A outer s H E, fun nm fd _ m2 => ∃ m3, m3.Sublist m2 ∧ XR nm fd m3⟩
theorem fn_ok {c : List D → M (Fl Unit Empty)} (n : Nat) (hn : ps.length = n) (F : FnD K x qual st dvs f fd) (S : FnScope N ps (defScope st))
    (body : ∀ (cdv : Value) (A : Around) (outer : List PySem.Env) (s : Shared) (H : Hp) (E : XK) (Z : XR), Room k (A.deeper (envOfC qual (defScope st) s.heap.objs.size f cdv)) → ∀ ds, ds.length = n → BF (XD P w K mg base N qual st f cdv A outer s H E Z) (defBody st) (startR N ds) (allN N) noF (c ds)) :
    FnOk P w K mg base (L2.CX P w) (k + 1) f fd ps (liftX K mg fun ds m R E => ds.length = n ∧ fnM (c ds) m R E) := by
  refine def_okD F S (fun ds m R E h => by rw [hn]; exact h.1) ?_
  intro cdv A outer s H E ds m R Z hr ⟨hl, h⟩
  refine ((body cdv A outer s H E Z hr ds hl).run m _ _ (fun ρ nm fd m2 h => ⟨_, List.take_sublist _ _, h⟩) h).mono ?_ ?_ ?_ ?_
  · rintro ρ' m' ⟨u, r, e, l, h⟩
    exact ⟨_, List.take_sublist _ _, h⟩
  · exact fun d m' h => ⟨_, List.take_sublist _ _, h⟩
  · rintro ρ' m' ⟨u, _⟩
    exact nomatch u
  · rintro ρ' m' ⟨u, _⟩
    exact nomatch u
theorem fn_okK {c : List D → M (Fl Unit Empty)} (n : Nat) (hn : ps.length = n) (F : FnD K x qual st dvs f fd) (S : FnScope N ps (defScope st))
    (body : ∀ (cdv : Value) (A : Around) (outer : List PySem.Env) (s : Shared) (H : Hp) (E : XK) (Z : XR), Room k (A.deeper (envOfC qual (defScope st) s.heap.objs.size f cdv)) → ∀ ds, ds.length = n → BF (XD P w K mg base N qual st f cdv A outer s H E Z) (defBody st) (startR N ds) (allN N) noF (c ds)) :
    FnOk P w K mg base (L2.CX P w) (k + 1) f fd ps (liftX K mg fun ds m R E => ds.length = n ∧ fnK (c ds) m R E) := by
  refine def_okD F S (fun ds m R E h => by rw [hn]; exact h.1) ?_
  intro cdv A outer s H E ds m R Z hr ⟨hl, h⟩
  refine ((body cdv A outer s H E Z hr ds hl).run m _ _ (fun ρ nm fd m2 h => ⟨_, List.Sublist.refl _, h⟩) h).mono ?_ ?_ ?_ ?_
  · rintro ρ' m' ⟨u, r, e, l, h⟩
    exact ⟨_, List.Sublist.refl _, h⟩
  · exact fun d m' h => ⟨_, List.Sublist.refl _, h⟩
  · rintro ρ' m' ⟨u, _⟩
    exact nomatch u
  · rintro ρ' m' ⟨u, _⟩
    exact nomatch u
theorem liftX_mono {sp sp' : SpX} (h : ∀ ds m R E, sp' ds m R E → sp ds m R E) (ok : FnOk P w K mg base (L2.CX P w) k f fd ps (liftX K mg sp)) : FnOk P w K mg base (L2.CX P w) k f fd ps (liftX K mg sp') :=
  ok.imp fun vs H Q E ⟨F, m, ds, R, XR, h1, h2, h3, h4⟩ => ⟨F, m, ds, R, XR, h1, h2, h _ _ _ _ h3, h4⟩
theorem fn1 {cf : D → M (Fl Unit Empty)} (F : FnD K x qual st dvs f fd) (S : FnScope N ps (defScope st))
    (body : ∀ (cdv : Value) (A : Around) (outer : List PySem.Env) (s : Shared) (H : Hp) (E : XK) (Z : XR), Room k (A.deeper (envOfC qual (defScope st) s.heap.objs.size f cdv)) → ∀ a, BF (XD P w K mg base N qual st f cdv A outer s H E Z) (defBody st) (startR N [a]) (allN N) noF (cf a)) (hn : ps.length = 1 := by rfl) :
    FnOk P w K mg base (L2.CX P w) (k + 1) f fd ps (liftX K mg (sp1 fun a => fnM (cf a))) := by
  refine liftX_mono (fun ds m R E h => ?_) (fn_ok (c := fun ds => match ds with | [a] => cf a | _ => bad) 1 hn F S fun cdv A outer s H E Z hr ds hl => ?_)
  · match ds, h with
    | [a], h => exact ⟨rfl, h⟩
  · match ds, hl with
    | [a], _ => exact body cdv A outer s H E Z hr a
theorem fk1 {cf : D → M (Fl Unit Empty)} (F : FnD K x qual st dvs f fd) (S : FnScope N ps (defScope st))
    (body : ∀ (cdv : Value) (A : Around) (outer : List PySem.Env) (s : Shared) (H : Hp) (E : XK) (Z : XR), Room k (A.deeper (envOfC qual (defScope st) s.heap.objs.size f cdv)) → ∀ a, BF (XD P w K mg base N qual st f cdv A outer s H E Z) (defBody st) (startR N [a]) (allN N) noF (cf a)) (hn : ps.length = 1 := by rfl) :
    FnOk P w K mg base (L2.CX P w) (k + 1) f fd ps (liftX K mg (sp1 fun a => fnK (cf a))) := by
  refine liftX_mono (fun ds m R E h => ?_) (fn_okK (c := fun ds => match ds with | [a] => cf a | _ => bad) 1 hn F S fun cdv A outer s H E Z hr ds hl => ?_)
  · match ds, h with
    | [a], h => exact ⟨rfl, h⟩
  · match ds, hl with
    | [a], _ => exact body cdv A outer s H E Z hr a
theorem fn2 {cf : D → D → M (Fl Unit Empty)} (F : FnD K x qual st dvs f fd) (S : FnScope N ps (defScope st))
    (body : ∀ (cdv : Value) (A : Around) (outer : List PySem.Env) (s : Shared) (H : Hp) (E : XK) (Z : XR), Room k (A.deeper (envOfC qual (defScope st) s.heap.objs.size f cdv)) → ∀ a b, BF (XD P w K mg base N qual st f cdv A outer s H E Z) (defBody st) (startR N [a, b]) (allN N) noF (cf a b)) (hn : ps.length = 2 := by rfl) :
    FnOk P w K mg base (L2.CX P w) (k + 1) f fd ps (liftX K mg (sp2 fun a b => fnM (cf a b))) := by
  refine liftX_mono (fun ds m R E h => ?_) (fn_ok (c := fun ds => match ds with | [a, b] => cf a b | _ => bad) 2 hn F S fun cdv A outer s H E Z hr ds hl => ?_)
  · match ds, h with
    | [a, b], h => exact ⟨rfl, h⟩
  · match ds, hl with
    | [a, b], _ => exact body cdv A outer s H E Z hr a b
/-- the law's own def: nothing is raised -/
abbrev XL (P : Program) (w : World) (K : Frag) (mg : Str → Option Value) (base : Heap) (N : List Str) (qual : Str) (st : Stmt) (f : Addr) (cdv : Value) (A : Around) (outer : List PySem.Env) (s : Shared) (H : Hp) : CD := ⟨(cxOf CX0 P w K mg base N qual (defScope st) f cdv A outer s H E0).nox, fun _ _ _ _ => False⟩
theorem fn_law {cf : D → M (Fl Unit Empty)} (F : Fun K x qual st f fd) (S : FnScope N ps (defScope st))
    (body : ∀ (cdv : Value) (A : Around) (outer : List PySem.Env) (s : Shared) (H : Hp), Room k (A.deeper (envOfC qual (defScope st) s.heap.objs.size f cdv)) → ∀ a, BF (XL P w K mg base N qual st f cdv A outer s H) (defBody st) (startR N [a]) (allN N) noF (cf a)) (hn : ps.length = 1 := by rfl) :
    FnOk P w K mg base CX0 (k + 1) f fd ps (lift K fun ds m R => sp1 (fun a => fnM (cf a)) ds m R NoX) := by
  refine def_ok F S (fun ds m R h => ?_) ?_
  · rw [hn]
    match ds, h with
    | [a], _ => rfl
  · intro cdv A outer s H ds m R hr h
    match ds, h with
    | [a], h =>
      refine ((body cdv A outer s H hr a).run m _ NoX (fun _ _ _ _ z => z) h).mono ?_ ?_ ?_ ?_
      · rintro ρ' m' ⟨u, r, e, l, h⟩
        exact ⟨_, List.take_sublist _ _, h⟩
      · exact fun d m' h => ⟨_, List.take_sublist _ _, h⟩
      · rintro ρ' m' ⟨u, _⟩
        exact nomatch u
      · rintro ρ' m' ⟨u, _⟩
        exact nomatch u
/-- a def called within an except suite -/
abbrev XH (P : Program) (w : World) (K : Frag) (mg : Str → Option Value) (base : Heap) (N : List Str) (qual : Str) (st : Stmt) (f : Addr) (cdv : Value) (A : Around) (outer : List PySem.Env) (s : Shared) (H : Hp) (p : Addr × Obj) : CD := ⟨(L2H.cxH CX0 P w K mg base N qual (defScope st) f cdv A outer s H E0 p).nox, fun _ _ _ _ => False⟩
end
end DL


namespace DL
open PySem PySem.Spec PySem.Calls PySem.W PyProof.Rows L2 RZ

/-! ### the end: what the top has left, put together -/
section
variable {P : Program} {w : World} {K : Frag} {mg : Str → Option Value} {base : Heap} {x qual : Str} {st : Stmt} {f : Addr} {fd : FuncData} {dvs : List V} {ps : List Str} {k n : Nat} {sp : SpX}
theorem knows0 (ok : FnOk P w K mg base (L2.CX P w) k f fd ps (liftX K mg sp)) (hm : mg x = some (.ref f)) (hk : keepIn K (.ref f) = true) (hb : Binds K fd ps []) (hl : ps.length = n := by rfl) : KnowsX P w K mg base k x n [] sp :=
  ⟨f, fd, ps, [], [], ok, hm, hk, hb, .nil, fun _ => .nil, hl⟩
theorem knowsD {dd : List D} (ok : FnOk P w K mg base (L2.CX P w) k f fd ps (liftX K mg sp)) (hm : mg x = some (.ref f)) (hk : keepIn K (.ref f) = true) (hb : ∃ ds, Vals dvs ds ∧ Binds K fd ps ds) (hd : ∀ F, Dens K F dvs dd) (hl : ps.length = n := by rfl) : KnowsX P w K mg base k x n dd sp := by
  obtain ⟨ds, hv, hb⟩ := hb
  exact ⟨f, fd, ps, ds, dvs, ok, hm, hk, hb, hv, hd, hl⟩
theorem KnowsP.mono {spd : SpD} {j : Nat} (h : KnowsP P w K mg base k x n spd) (hj : k ≤ j) : KnowsP P w K mg base j x n spd := by
  obtain ⟨f, fd, ps, FR, r⟩ := h.fn
  exact ⟨f, fd, ps, fun A outer s H args us vs Q E p hr => FR A outer s H args us vs Q E p (hr.mono hj), r⟩
/-- a def with a closure (an __init__ that says super()) -/
abbrev fnC (name qual : Str) (st : Stmt) (cc cda : Addr) (kV doc pm : Value) (an : Option Addr) (ct : Value) : FuncData :=
  { name, qualname := qual, params := defArgs st, body := .stmts (defBody st), scope := defScope st, globals := mainGlobals, closure := [(("__class__" : Str), cc)], defaults := .none, kwdefaults := kV, doc, pyModule := pm, annotations := an, code := .ref cda, closureTuple := ct, builtins := builtinsNs }
theorem xin_mk {C fI cc cda N : Addr} {q nm qq : Str} {bs bm : List Value} {sn : List Str} {sub : List Value} {ab : Bool} {col : Option Bool} {dd : Option Addr} {k0 k1 k2 k3 k5 : Option Value} {kV doc pm ct oc ccl cl : Value} {an od cdd cld : Option Addr} {osl ccs csl : Array (Option Value)} {vs : Array Value} {file : Str} {tf : Tok}
    (lx : K.lookup C = some (excClassObj nm qq C N bs bm true sn sub ab col dd k0 k1 k2 k3 k5 "ValueError.__new__")) (rx : PySem.HandSPX.refsVE bm = true) (sx : findIn K (.ref C) "__setattr__" = some (some (.builtin "object.__setattr__")))
    (bx : subIn K (.ref C) (.type "BaseException") = some true) (tx : typeIn K (.ref C) = some (.type "type")) (kx : keepIn K (.ref C) = true) (ix : findIn K (.ref C) "__init__" = some (some (.ref fI))) (ux : typeIn K (.ref fI) = some (.type "function"))
    (fx : K.lookup fI = some ⟨oc, od, .func (fnC "__init__" q st cc cda kV doc pm an ct), osl⟩) (cx : codeIn K (.ref cda) q = true) (dx : K.lookup cda = some ⟨ccl, cdd, .fields vs, ccs⟩) (d2 : vs[2]? = some (.str file tf)) (d3 : ((P.main.file : Str) == file) = true)
    (ex : K.lookup cc = some ⟨cl, cld, .cell (some (.ref C)), csl⟩) (px : ks_superIn K C C "__init__" = some (some (.builtin "ValueError.__init__"))) (mx : mroIn K C (.ref C) = some true) (vx : subIn K (.ref C) (.type "ValueError") = some true)
    (qx : nsIn K cStatics "thirdparty.any" = some none) (ox : excInitIn K C [.type "ValueError", .type "Exception", .type "BaseException", .type "object"] "ValueError.__new__" = true) (zs : mg "super" = none) (tp : (P.main.scope.names.lookup ("super" : Str)).isSome = false) :
    XIn P K mg C fI cc cda q (fnC "__init__" q st cc cda kV doc pm an ct) :=
  { T := ⟨⟨nm, qq, N, bs, bm, sn, sub, ab, col, dd, k0, k1, k2, k3, k5, lx, rx⟩, sx, bx, tx, kx⟩, iC := ix, tI := ux, lf := ⟨oc, od, osl, fx⟩, lc := cx, fq := rfl, fc := rfl, fl := rfl, fg := rfl, fb := rfl, hcode := ⟨ccl, cdd, vs, ccs, file, tf, dx, d2, d3⟩, hcell := ⟨cl, cld, csl, ex⟩, sup := px, sub := mx, sVE := vx, opq := qx, exi := ox, mgs := zs, top := tp }
end
end DL


namespace DL
open PySem PySem.Spec PySem.Calls PyProof.Rows L2 RZ

/-! ### instances -/
def attM (cn f : Str) (d : D) : M D := fun m R _ => ∃ ns vs v, ObjV m d cn ns vs ∧ lookF ns vs f = some v ∧ R v m
def stF (cn f : Str) (o v : D) : M Unit := fun m R _ => match o with
  | .ref a => ∃ (n : Nat) (dx : Addr) (ns : List Str) (vs : List D), m[n]? = some (a, .ins cn dx ns vs) ∧ ns.length < 1000 ∧ R () (m.set n (a, .ins cn dx (putN ns f) (putV ns vs f v)))
  | _ => False
def chkO (cn mt : Str) (o : D) : M Unit := fun m R _ => ∃ ns vs, ObjV m o cn ns vs ∧ mt ∉ ns ∧ R () m
def ixO (cn : Str) (sp : SpX) (x y : D) : M D := fun m R E => (∃ ns vs, ObjV m x cn ns vs ∧ sp [x, y] m R E) ∨ ixM x y m R E
/-- while it is read, a dict of the ledger stands as a frozen one -/
def thawM (d : D) (c : D → M D) : M D := fun m R E => match d with
  | .ref a => ∃ (n : Nat) (ks : List (List Int)) (ds : List D), m[n]? = some (a, .dI ks ds) ∧ c (.dI ks ds) (m.eraseIdx n) (fun r m2 => noD r = true ∧ noDL m2 ∧ R r (m2 ++ [(a, .dI ks ds)])) NoX
  | d => c d m R NoX
section
variable {X : CD} {e o a b cc it : Expr} {es : List Expr} {rest : List Stmt} {ρ ρ' : Rn} {p p2 pos pos2 apos cpos pos' : Pos} {c ca cb ce co : M D} {cs : M (List D)} {ct : M Bool} {cn mt f x : Str} {k n i : Nat} {sp : SpX} {mg : Str → Option Value} {P : Program} {w : World} {K : Frag} {base : Heap} {σ τ : Type} {en : σ → Option Rn} {el : τ → Rn} {kk : M (Fl σ τ)} {d : D}
abbrev FnG (K : Frag) (cn : Str) : Prop := ∀ C f, CnIs K cn C → PySem.W.findIn K (.ref C) "__getitem__" = some (some (.ref f)) → PySem.W.fnIn K f = true
/-! stars, chains, ranges as values -/
def starL (d : D) : M (List D) := fun m R _ => ∃ ds, (LstV m d ds ∨ d = .tup ds) ∧ R ds m
def chainM (op' : CmpOp) (y : D) (c : M D) (k : Bool) : M D := iteM k (bnd c fun z => cmpM op' y z) (ret (.bl false))
def lrgG (b : Bool) (d : D) : M D := fun m R _ => match d with
  | .int j => -100000 ≤ j ∧ j ≤ 100000 ∧ RNewL R m (rangeD 0 j.toNat) b
  | _ => False
def trgM (d : D) : M D := fun m R _ => match d with
  | .int j => -100000 ≤ j ∧ j ≤ 100000 ∧ R (.tup (rangeD 0 j.toNat)) m
  | _ => False
/-! a dict of the ledger walked -/
end
end DL


namespace DL
open PySem PySem.Spec PySem.Calls PyProof.Rows L2 RZ

/-! ### dict comprehensions -/
def dcM (f : D → M (Option (D × D))) : List D → List (List Int) → List D → M (List (List Int) × List D)
  | [], ks, vs => ret (ks, vs)
  | d :: ds, ks, vs => fun m R E => f d m (fun o m' => match o with
    | some (k, v) => PutD ks vs k v fun ks vs => dcM f ds ks vs m' R E
    | none => dcM f ds ks vs m' R E) NoX
def dicG (b : Bool) (q : List (List Int) × List D) : M D := fun m R _ => RNew R m q.1 q.2 b
def pairM (k v : D) : M (Option (D × D)) := ret (some (k, v))
section
variable {X : CD} {kx vx it t o e : Expr} {scope : Scope} {ifs : List Expr} {ρ : Rn} {pos py apos cpos : Pos} {y x : Str} {j k n i : Nat} {ci : M (List D)} {f : D → M (Option (D × D))} {ck cv : D → M D} {ct : D → M Bool} {ρ2 : D → Rn} {ce co : M D}
structure CvD (X : CD) (scope : Scope) (ifs : List Expr) (kx vx : Expr) (y : Str) (j : Nat) (ρ : Rn) (f : D → M (Option (D × D))) : Prop where
  run : ∀ (d : D) (m : Led) (R : Option (D × D) → Led → Prop), f d m R NoX → ∃ ρ2, SetAt ρ j y d ρ2 ∧ ∀ (s : Shared) (H0 : Hp) (C : Addr) (cl : List (Str × Addr)) (fp : List Addr),
    match ifs with
    | [] => EX (X.blk s H0 scope (compEnvC scope cl C X.env) fp) kx ρ2 m fun k m2 => ∀ (s : Shared) (H0 : Hp) (C : Addr) (cl : List (Str × Addr)) (fp : List Addr), EX (X.blk s H0 scope (compEnvC scope cl C X.env) fp) vx ρ2 m2 fun v m3 => R (some (k, v)) m3
    | [c] => TX (X.blk s H0 scope (compEnvC scope cl C X.env) fp) c ρ2 m fun b m1 => (b = true → ∀ (s : Shared) (H0 : Hp) (C : Addr) (cl : List (Str × Addr)) (fp : List Addr), EX (X.blk s H0 scope (compEnvC scope cl C X.env) fp) kx ρ2 m1 fun k m2 => ∀ (s : Shared) (H0 : Hp) (C : Addr) (cl : List (Str × Addr)) (fp : List Addr), EX (X.blk s H0 scope (compEnvC scope cl C X.env) fp) vx ρ2 m2 fun v m3 => R (some (k, v)) m3) ∧ (b = false → R none m1)
    | _ => False
theorem CvD.I (hc : CvD X scope ifs kx vx y j ρ f) {ds : List D} {m : Led} {R : List (List Int) × List D → Led → Prop} {E : XR} (h : dcM f ds [] [] m R E) : CompD X scope ifs kx vx y j ρ (fun ks vs m' => R (ks, vs) m') ds m := by
  refine ⟨fun i ks vs m' => dcM f (ds.drop i) ks vs m' R E, h, fun i d ks vs m' hd hI => ?_, fun ks vs m' hI => ?_⟩
  · dsimp only at hI
    rw [drop_at hd] at hI
    obtain ⟨ρ2, h1, h2⟩ := hc.run d m' _ hI
    refine ⟨ρ2, h1, fun s H0 C cl fp => ?_⟩
    have h5 := h2 s H0 C cl fp
    rcases ifs with _ | ⟨c, _ | ⟨_, _⟩⟩ <;> exact h5
  · dsimp only at hI
    rw [List.drop_length] at hI
    exact hI
theorem CompD.mono {R R' : List (List Int) → List D → Led → Prop} {ds : List D} {m : Led} (h : CompD X scope ifs kx vx y j ρ R ds m) (q : ∀ ks vs m', R ks vs m' → R' ks vs m') : CompD X scope ifs kx vx y j ρ R' ds m := let ⟨I, a, b, c⟩ := h; ⟨I, a, b, fun ks vs m' z => q _ _ _ (c ks vs m' z)⟩
/-! xs.pop(i) -/
def popM (d y : D) : M D := fun m R _ => match d, y with
  | .ref a, .int i => ∃ (n : Nat) (ds : List D) (j : Nat) (v : D), m[n]? = some (a, .lst ds) ∧ ds.length ≤ 100000 ∧ ixN ds.length i = some j ∧ ds[j]? = some v ∧ R v (m.set n (a, .lst (ds.eraseIdx j)))
  | _, _ => False
theorem Dens.eraseIdx {K : Frag} {F : Hp} : ∀ {vs : List V} {ds : List D} (i : Nat), Dens K F vs ds → Dens K F (vs.eraseIdx i) (ds.eraseIdx i)
  | _, _, _, .nil => .nil
  | _, _, 0, .cons _ t => t
  | _, _, i + 1, .cons q t => .cons q (Dens.eraseIdx i t)
end
end DL
namespace DL
open PySem PySem.Spec PySem.Calls PyProof.Rows L2 RZ
section
variable {X : CD} {a bb c : Expr} {ρ : Rn} {m : Led} {pos : Pos} {ca cb cc : M D}
def chainB (op' : CmpOp) (y : D) (c : M D) (k : Bool) : M Bool := iteM k (bnd c fun z => cmpB op' y z) (ret false)
end
end DL


namespace DL
open PySem PySem.Spec PySem.Calls PyProof.Rows L2 RZ

/-! ### several except clauses over data -/
structure ClD where
  x : Str
  nm : Option (Str × Nat)
  sts : List Stmt
abbrev RtD (rt : D → Led → Prop) : EndsD := { nx := fun _ _ => False, rt := rt }
def qN (X : CD) (rt : D → Led → Prop) : List ClD → XQ
  | [] => X.xq
  | c :: r => fun nm fd ρ2 m2 => ∃ b, XM X.K X.mg nm c.x b ∧ (b = true → ∀ a dd oe pn, SuOk X.K X.mg nm fd dd oe → match c.nm with
      | none => SX (X.suite a ((a, oe) :: pn)) c.sts ρ2 m2 (RtD rt)
      | some (n, i) => ∃ ρ3, SetAt ρ2 i n (ExD a fd dd) ρ3 ∧ SX (X.suite a ((a, oe) :: pn)) c.sts ρ3 m2 (RtD rt)) ∧ (b = false → qN X rt r nm fd ρ2 m2)
def toH (X : CD) (c : ClD) : Hdl := ((X.mg c.x).getD .none, c.nm.map (·.2), fun a cls d rt σ H => ∀ oe pn, Zc cls d oe → (∃ vs, oe.data = .fields vs) → SSs (X.toCx.suite a ((a, oe) :: pn)) c.sts (RtE rt) σ H)
inductive HdR (X : CD) : List ExceptHandler → List ClD → Prop
  | nil : HdR X [] []
  | plain {x : Str} {b₀ : Stmt} {suite : List Stmt} {np pos' : Pos} {hds : List ExceptHandler} {l : List ClD} (hc : ∃ Cc, X.mg x = some (.ref Cc)) (hg : Gl X x) (hdb : (x == ("__debug__" : Str)) = false) (r : HdR X hds l) :
      HdR X (.ExceptHandler (some (.Name x np)) none (b₀ :: suite) pos' :: hds) (⟨x, none, b₀ :: suite⟩ :: l)
  | named {x n : Str} {i : Nat} {b₀ : Stmt} {suite : List Stmt} {np pos' : Pos} {hds : List ExceptHandler} {l : List ClD} (hc : ∃ Cc, X.mg x = some (.ref Cc)) (hg : Gl X x) (hdb : (x == ("__debug__" : Str)) = false) (hi : X.N[i]? = some n) (hln : X.env.kindOf n = some .local) (r : HdR X hds l) :
      HdR X (.ExceptHandler (some (.Name x np)) (some n) (b₀ :: suite) pos' :: hds) (⟨x, some (n, i), b₀ :: suite⟩ :: l)
section
variable {X : CD} {body : List Stmt} {ρ : Rn} {m : Led} {E : EndsD} {pos : Pos} {h₀ : ExceptHandler} {hds : List ExceptHandler} {cl : List ClD}
theorem RtE.mono {Z : Cx} {sts : List Stmt} {rt : V → Hp → Prop} {D : Ends} {σ : L2.St} {H : Hp} (h : SSs Z sts (RtE rt) σ H) (k : ∀ v H', rt v H' → D.rt v H') : SSs Z sts D σ H := h.mono (fun _ _ z => z.elim) k (fun _ _ z => z.elim) fun _ _ z => z.elim
theorem HdR.n {hds : List ExceptHandler} : ∀ {cl : List ClD}, HdR X hds cl → HdsN X.toCx hds (cl.map (toH X)) := fun {cl} h => by
  induction h with
  | nil => exact .nil
  | plain hc hg hdb r ih =>
    obtain ⟨Cc, hc⟩ := hc
    exact .plain ⟨hg, hdb, .inl (by rw [hc]; rfl)⟩ (fun a oe cls d pn hz hv => ⟨fun pins s σ H D I ⟨rt, hh, hk⟩ => RtE.mono (hh oe pn hz hv) hk pins s I⟩) ih
  | named hc hg hdb hi hln r ih =>
    obtain ⟨Cc, hc⟩ := hc
    exact .named ⟨hg, hdb, .inl (by rw [hc]; rfl)⟩ hi hln (fun a oe cls d pn hz hv => ⟨fun pins s σ H D I ⟨rt, hh, hk⟩ => RtE.mono (hh oe pn hz hv) hk pins s I⟩) ih
end
/-! mirrors -/
abbrev Clz := List (List (Str × Bool) × (Option (Str × D) → M (Fl Empty Empty)))
def catchN {σ τ : Type} : Clz → Str → Option (Str × D) → Led → (Fl σ τ → Led → Prop) → XR → Prop
  | [], nm, fd, m, _, E => E nm fd m
  | (cls, ch) :: r, nm, fd, m, R, E => ∃ b, (nm, b) ∈ cls ∧ (b = true → bnd (ch fd) upF m R NoX) ∧ (b = false → catchN r nm fd m R E)
def tryN {σ τ : Type} (cb : M (Fl σ τ)) (hs : Clz) : M (Fl σ τ) := fun m R E => cb m R fun nm fd m2 => catchN hs nm fd m2 R E
inductive HvN (X : CD) (ρ : Rn) : List ExceptHandler → List ClD → Clz → Prop
  | nil : HvN X ρ [] [] []
  | plain {x : Str} {b₀ : Stmt} {suite : List Stmt} {np pos' : Pos} {hds : List ExceptHandler} {l : List ClD} {z : Clz} {cls : List (Str × Bool)} {ch : M (Fl Empty Empty)} (hc : ∃ Cc, X.mg x = some (.ref Cc)) (hX : ∀ q ∈ cls, XM X.K X.mg q.1 x q.2)
      (hh : ∀ a oe pn, BF (X.suite a ((a, oe) :: pn)) (b₀ :: suite) ρ (fun _ : Empty => none) noF ch) (r : HvN X ρ hds l z) (hg : Gl X x := by rfl) (hdb : (x == ("__debug__" : Str)) = false := by decide) :
      HvN X ρ (.ExceptHandler (some (.Name x np)) none (b₀ :: suite) pos' :: hds) (⟨x, none, b₀ :: suite⟩ :: l) ((cls, fun _ => ch) :: z)
  | named {x n : Str} {i : Nat} {b₀ : Stmt} {suite : List Stmt} {np pos' : Pos} {hds : List ExceptHandler} {l : List ClD} {z : Clz} {cls : List (Str × Bool)} {ch : Option (Str × D) → M (Fl Empty Empty)} {ρd : D → Rn} (hc : ∃ Cc, X.mg x = some (.ref Cc)) (hX : ∀ q ∈ cls, XM X.K X.mg q.1 x q.2) (hi : SlotAt ρ i n) (hset : ∀ u, SetAt ρ i n u (ρd u))
      (hh : ∀ nm fd a dd oe pn, (nm, true) ∈ cls → SuOk X.K X.mg nm fd dd oe → BF (X.suite a ((a, oe) :: pn)) (b₀ :: suite) (ρd (ExD a fd dd)) (fun _ : Empty => none) noF (ch fd)) (r : HvN X ρ hds l z) (hln : X.env.kindOf n = some .local := by rfl) (hg : Gl X x := by rfl) (hdb : (x == ("__debug__" : Str)) = false := by decide) :
      HvN X ρ (.ExceptHandler (some (.Name x np)) (some n) (b₀ :: suite) pos' :: hds) (⟨x, some (n, i), b₀ :: suite⟩ :: l) ((cls, ch) :: z)
section
variable {X : CD} {body rest : List Stmt} {ρ : Rn} {pos : Pos} {h₀ : ExceptHandler} {hds : List ExceptHandler} {cl : List ClD} {z : Clz} {σ τ σ1 : Type} {en : σ → Option Rn} {el : τ → Rn} {e1 : σ1 → Rn} {cb : M (Fl σ1 τ)} {k : σ1 → M (Fl σ τ)}
theorem HvN.r (hN : ρ.map (·.1) = X.N) {hds : List ExceptHandler} {cl : List ClD} {z : Clz} (h : HvN X ρ hds cl z) : HdR X hds cl := by
  induction h with
  | nil => exact .nil
  | plain hc hX hh r hg hdb ih => exact .plain hc hg hdb ih
  | named hc hX hi hset hh r hln hg hdb ih => exact .named hc hg hdb (by rw [← hN]; exact hi.ix) hln ih
theorem HvN.q {hds : List ExceptHandler} {cl : List ClD} {z : Clz} (h : HvN X ρ hds cl z) {R : Fl σ1 τ → Led → Prop} {E : XR} (xf : XA X ρ E) {nm : Str} {fd : Option (Str × D)} {m2 : Led} (hq : catchN z nm fd m2 R E) : qN X (fun d m' => R (.rt d) m') cl nm fd ρ m2 := by
  induction h with
  | nil => exact xf _ _ _ hq
  | plain hc hX hh r hg hdb ih =>
    obtain ⟨b, hcl, h1, h2⟩ := hq
    refine ⟨b, hX (nm, b) hcl, fun eb a dd oe pn _ => ?_, fun eb => ih (h2 eb)⟩
    refine ((hh a oe pn).run m2 _ NoX (fun _ _ _ _ z => z.elim) (h1 eb)).mono ?_ ?_ ?_ ?_
    · rintro ρ' m' ⟨s, r, e, l, h⟩
      cases e
    · exact fun d m' h => h
    · rintro ρ' m' ⟨s, l, h⟩
      exact nomatch s
    · rintro ρ' m' ⟨s, l, h⟩
      exact nomatch s
  | named hc hX hi hset hh r hln hg hdb ih =>
    obtain ⟨b, hcl, h1, h2⟩ := hq
    refine ⟨b, hX (nm, b) hcl, fun eb a dd oe pn su => ⟨_, hset _, ?_⟩, fun eb => ih (h2 eb)⟩
    subst eb
    refine ((hh nm fd a dd oe pn hcl su).run m2 _ NoX (fun _ _ _ _ z => z.elim) (h1 rfl)).mono ?_ ?_ ?_ ?_
    · rintro ρ' m' ⟨s, r, e, l, h⟩
      cases e
    · exact fun d m' h => h
    · rintro ρ' m' ⟨s, l, h⟩
      exact nomatch s
    · rintro ρ' m' ⟨s, l, h⟩
      exact nomatch s
end
end DL


namespace DL
open PySem PySem.Spec PySem.Calls PyProof.Rows L2 RZ

/-! ### a list of the ledger walked, the whole ledger being frozen for it -/
def stillM (d : D) (c : D → M D) : M D := fun m R E => match d with
  | .ref a => ∃ (n : Nat) (ds : List D), m[n]? = some (a, .lst ds) ∧ c (.lst ds) [] (fun r m2 => noL r = true ∧ m2 = [] ∧ R r m) NoX
  | d => c d m R NoX
section
variable {X : CD} {e : Expr} {ρ : Rn} {x : Str} {i : Nat} {d : D}
end
end DL


namespace DL
open PySem PySem.Spec PySem.Calls PyProof.Rows L2 RZ

/-! ### operators of own classes -/
def binO (cn : Str) (sp : SpX) (op : Operator) (x y : D) : M D := fun m R E => (∃ ns vs ns2 vs2, ObjV m x cn ns vs ∧ ObjV m y cn ns2 vs2 ∧ sp [x, y] m R E) ∨ binM op x y m R E
def binI (cn : Str) (sp : SpX) (op : Operator) (x y : D) : M D := fun m R E => (∃ ns vs i, ObjV m x cn ns vs ∧ y = .int i ∧ sp [x, y] m R E) ∨ binM op x y m R E
def unO (cn : Str) (sp : SpX) (op : UnaryOp) (x : D) : M D := fun m R E => (∃ ns vs, op = .USub ∧ ObjV m x cn ns vs ∧ sp [x] m R E) ∨ unM op x m R E
def cmpO (cn : Str) (sp : SpX) (x y : D) : M D := fun m R E => (∃ ns vs ns2 vs2, ObjV m x cn ns vs ∧ ObjV m y cn ns2 vs2 ∧ sp [x, y] m R E) ∨ cmpM .Eq x y m R E
section
variable {X : CD} {a b : Expr} {ρ : Rn} {pos : Pos} {c ca cb : M D} {cn : Str} {k n : Nat} {sp : SpX} {mg : Str → Option Value} {P : Program} {w : World} {K : Frag} {base : Heap}
def cmpOB (cn : Str) (sp : SpX) (x y : D) : M Bool := fun m R E => (∃ ns vs ns2 vs2, ObjV m x cn ns vs ∧ ObjV m y cn ns2 vs2 ∧ sp [x, y] m (fun d m' => ∃ k, d = .bl k ∧ R k m') E) ∨ cmpB .Eq x y m R E
/-! a new list times an int -/
def repM (x y : D) : M D := fun m R _ => match x, y with
  | .ref a, .int i => ∃ (n : Nat) (ds : List D), m[n]? = some (a, .lst ds) ∧ i ≤ 10000 ∧ -10000 ≤ i ∧ ds.length ≤ 5 ∧ R (.lst (List.replicate i.toNat ds).flatten) m
  | _, _ => False
end
end DL


namespace DL
open PySem PySem.Spec PySem.Calls PyProof.Rows L2 RZ

/-! ### {} and {k: v} -/
def newDM : M D := fun m R _ => ∀ p, R (.ref p) (m ++ [(p, .dI [] [])])
def putM (d k v : D) : M D := fun m R _ => match d, k with
  | .ref p, .tup kd => ∃ (n : Nat) (k : List Int), kd = k.map .int ∧ m[n]? = some (p, .dI [] []) ∧ R (.ref p) (m.set n (p, .dI [k] [v]))
  | _, _ => False
section
variable {X : CD} {a b kx vx : Expr} {ρ : Rn} {pos : Pos} {c ck cv : M D}
end
end DL


namespace DL
open PySem PySem.Spec PySem.Calls PyProof.Rows L2 RZ

/-! ### own iteration, own in -/
def iterO (cn fld : Str) (d : D) : M (List D) := fun m R E => (∃ ns vs ds, ObjV m d cn ns vs ∧ lookF ns vs fld = some (.lst ds) ∧ R ds m)
def inOB (cn : Str) (sp : SpX) (neg : Bool) (x y : D) : M Bool := fun m R E => ∃ ns vs, ObjV m y cn ns vs ∧ sp [y, x] m (fun d m' => ∃ c, d = .bl c ∧ R (if neg then !c else c) m') E
section
variable {X : CD} {a b it tg : Expr} {ρ : Rn} {pos : Pos} {c ca cb : M D} {cn fld : Str} {k n : Nat} {sp : SpX} {mg : Str → Option Value} {P : Program} {w : World} {K : Frag} {base : Heap}
end
end DL


namespace DL
open PySem PySem.Spec PySem.Calls PyProof.Rows L2 RZ

/-! ### a[i], b[j] = e -/
def swp2 {α : Type} (d : D) (f : D → D → M α) : M α := fun m R E => match d with
  | .tup [x, y] => f x y m R E
  | _ => False
section
variable {X : CD} {e o1 i1 o2 i2 : Expr} {rest : List Stmt} {ρ : Rn} {p1 p2 pt pos : Pos} {kt : Nat} {σ τ : Type} {en : σ → Option Rn} {el : τ → Rn} {ce c1 k1 c2 k2 : M D} {k : M (Fl σ τ)}
end
/-! ### i in xs, ints -/
def inSB (neg : Bool) (x y : D) : M Bool := fun m R _ => ∃ (i : Int) (ns : List Int), x = .int i ∧ (LstV m y (ns.map D.int) ∨ y = .tup (ns.map D.int)) ∧ R (if neg then !decide (i ∈ ns) else decide (i ∈ ns)) m
section
variable {X : CD} {a b : Expr} {ρ : Rn} {pos : Pos} {ca cb : M D} {m : Led} {x y : D}
end
end DL


namespace DL
open PySem PySem.Spec PySem.Calls PyProof.Rows L2 RZ

/-! ### list(o), len(o) of an own class -/
def listO (cn fld : Str) (ds : List D) : M D := fun m R E => (∃ d ns vs xs, ds = [d] ∧ ObjV m d cn ns vs ∧ lookF ns vs fld = some (.lst xs) ∧ xs.length ≤ 100000 ∧ R (.lst xs) m) ∨ listM ds m R E
def lenO (cn fld : Str) (ds : List D) : M D := fun m R E => (∃ d ns vs xs, ds = [d] ∧ ObjV m d cn ns vs ∧ lookF ns vs fld = some (.lst xs) ∧ R (.int (xs.length : Nat)) m) ∨ lenM ds m R E
section
variable {X : CD} {cn fld : Str} {k : Nat} {mg : Str → Option Value} {P : Program} {w : World} {K : Frag} {base : Heap}
end
/-! ### f(e, .., k = v, ..) -/
structure KnowsN (P : Program) (w : World) (K : Frag) (mg : Str → Option Value) (base : Heap) (k : Nat) (x : Str) (n : Nat) (ks : List Str) (sp : SpX) : Prop where
  fn : ∃ f fd ps, FnOk P w K mg base (L2.CX P w) k f fd ps (liftX K mg sp) ∧ mg x = some (.ref f) ∧ PySem.W.keepIn K (.ref f) = true ∧ KBn K fd ps n ks (fun us ws => us ++ ws) (fun vs zs => vs ++ zs)
theorem KnowsN.mono {P : Program} {w : World} {K : Frag} {mg : Str → Option Value} {base : Heap} {k j : Nat} {x : Str} {n : Nat} {ks : List Str} {sp : SpX} (G : KnowsN P w K mg base k x n ks sp) (h : k ≤ j) : KnowsN P w K mg base j x n ks sp := by
  obtain ⟨f, fd, ps, FO, r⟩ := G.fn
  exact ⟨f, fd, ps, FO.mono h, r⟩
def kwN (n j : Nat) (sp : SpX) (ds es : List D) : M D := fun m R E => ds.length = n ∧ es.length = j ∧ sp (ds ++ es) m R E
section
variable {X : CD} {e : Expr} {es : List Expr} {kws : List Keyword} {ks : List Str} {ρ : Rn} {m : Led} {R : D → Led → Prop} {E : Str → Option (Str × D) → Led → Prop} {x : Str} {p pos : Pos} {k n : Nat} {sp : SpX} {mg : Str → Option Value} {P : Program} {w : World} {K : Frag} {base : Heap} {cs ck : M (List D)}
end
/-! ### a ledger dict read as frozen for a while, and put back where it was -/
def thawS (d : D) (c : D → M D) : M D := fun m R E => match d with
  | .ref a => ∃ (n : Nat) (ks : List (List Int)) (ds : List D), m[n]? = some (a, .dI ks ds) ∧ c (.dI ks ds) (m.eraseIdx n) (fun r m2 => noD r = true ∧ m2 = m.eraseIdx n ∧ noDL m2 ∧ R r m) NoX
  | d => c d m R NoX
section
variable {X : CD} {e : Expr} {ρ : Rn} {x : Str} {i : Nat} {d : D}
end
end DL


namespace DL
open PySem PySem.Spec PySem.Calls PyProof.Rows L2 RZ

/-! ### e[::-1] -/
def revM (d : D) : M D := fun m R E => lstM d m (fun ds m' => R (.lst ds.reverse) m') E
theorem Dens.reverse {K : Frag} {F : Hp} : ∀ {vs : List V} {ds : List D}, Dens K F vs ds → Dens K F vs.reverse ds.reverse
  | _, _, .nil => .nil
  | _, _, .cons q t => by
    rw [List.reverse_cons, List.reverse_cons]
    exact (Dens.reverse t).append (.cons q .nil)
section
variable {X : CD} {e o : Expr} {es : List Expr} {ρ : Rn} {c co : M D} {cs : M (List D)} {k : Nat} {p1 p2 p3 pos apos cpos : Pos} {m : Led} {R : D → Led → Prop}
/-! ### methods of builtin kinds: the kind is known when the object is -/
structure MtId (name : Str) (T id : String) : Prop where
  pa : PlainAttrs T
  slot : Slot T name id
  hty : typeOf (.builtin id) = pure (.type "method_descriptor")
def KdX (X : CD) (m : Led) (d : D) (T : String) : Prop := ∀ F σ H x pins s v, Den X.K F x d → AtX X F m H → Inv X pins σ H s → RelV x v → s.TypeIs v T ∧ ∀ a, v = .ref a → ∃ ob, s.heap.get? a = some ob ∧ ob.dict = none
theorem ev_mt0 {name : Str} {op : D → M D} (ho : Ev X o ρ co) (hop : ∀ d m R E, op d m R E → ∃ T id, MtId name T id ∧ KdX X m d T ∧ BX X (.builtin id) [d] m R)
    (hbase : attributeBase o name X.env (eval o X.env) = eval o X.env := by rfl) (hline : (apos.endLine == cpos.line) = true := by rfl) : Ev X (.Call (.Attribute o name apos) [] [] cpos) ρ (bnd co op) := ⟨fun m R E xa h => .mk fun F σ H en at_ => by
  intro pins s I
  refine wpAny_Call_method0_late hbase hline (thn (((ho.run m _ E xa h).run F σ H en at_) pins s I) fun v s1 ⟨x, H1, I1, r1, d, F1, m1, st, q, r⟩ => ?_)
  obtain ⟨T, id, mi, kd, b⟩ := hop d m1 R E r
  obtain ⟨h1, h2⟩ := kd F1 σ H1 x pins s1 v q (at_.to st) I1 r1
  refine ⟨T, id, mi.pa, mi.slot, mi.hty, h1, h2, Calls.callWith_builtin rfl (PySem.evalArgs_none ?_)⟩
  exact thn (b.run F1 σ H1 [x] pins s1 [v] (.cons q .nil) (at_.to st) I1 (.cons r1 .nil)) fun w s2 ⟨y, H2, I2, r2, k⟩ => ⟨y, H2, I2, r2, PQ.step st k⟩⟩
theorem ev_mt {name : Str} {ck : D → M Unit} {op : D → List D → M D} (ho : Ev X o ρ co) (ha : EvA X (e :: es) ρ cs) (hop : ∀ d m R E, ck d m R E → ∃ T id, MtId name T id ∧ KdX X m d T ∧ (∀ ds m R E, op d ds m R E → BX X (.builtin id) (d :: ds) m R) ∧ R () m)
    (hbase : attributeBase o name X.env (eval o X.env) = eval o X.env := by rfl)
    (hfew : ((backTo cpos (starEach (e :: es) X.env)).all (fun x => !x.1) && (backToKw cpos (keywordEach [] X.env)).all (fun x => x.1.isSome)
      && decide ((e :: es).length + ([] : List Keyword).length + (if ([] : List Keyword).isEmpty then 0 else 1) < 30)) = true := by rfl)
    (hline : (apos.endLine == cpos.line) = true := by rfl) (hs : starEach (e :: es) X.env = (false, eval e X.env) :: starEach es X.env := by rfl) (hplain : (backTo cpos (starEach es X.env)).any (·.1) = false := by rfl) :
    Ev X (.Call (.Attribute o name apos) (e :: es) [] cpos) ρ (bnd co fun u => bnd (ck u) fun _ => bnd cs (op u)) := ⟨fun m R E xa h => .mk fun F σ H en at_ => by
  intro pins s I
  refine wpAny_Call_method_late hbase hfew hline rfl (thn (((ho.run m _ E xa h).run F σ H en at_) pins s I) fun v s1 ⟨x, H1, I1, r1, d, F1, m1, st, q, r⟩ => ?_)
  obtain ⟨T, id, mi, kd, b, r⟩ := hop d m1 _ E r
  obtain ⟨h1, h2⟩ := kd F1 σ H1 x pins s1 v q (at_.to st) I1 r1
  refine ⟨T, id, mi.pa, mi.slot, mi.hty, h1, h2, ?_⟩
  have hA := ((ha.run m1 _ E xa r).run F1 σ H1 (en.mono st.ex) (at_.to st)) cpos pins s1 I1
  rw [hs] at hA ⊢
  refine Calls.callWith_builtin (by show (false || (backTo cpos (starEach es X.env)).any (·.1)) = false; rw [hplain] <;> rfl) (Calls.evalArgs_plain ?_)
  refine thn hA fun us s2 ⟨vs, H2, I2, r2, ds, F2, m2, st2, q2, r⟩ => ?_
  exact thn ((b ds m2 R E r).run F2 σ H2 (x :: vs) pins s2 (v :: us) (.cons (q.mono st2.ex) q2) ((at_.to st).to st2) I2 (.cons r1 r2)) fun w s3 ⟨y, H3, I3, r3, k⟩ => ⟨y, H3, I3, r3, PQ.step (st.trans st2) k⟩⟩
/-! kinds -/
end
end DL


namespace DL
open PySem PySem.Spec PySem.Calls PyProof.Rows L2 RZ

/-! ### d.clear() -/
section
variable {prog : Program} {w : World} {A : Around} {E : Value → Shared → Prop} {s : Shared}
end
section
variable {X : CD} {m : Led} {R : D → Led → Prop} {E : XR} {d y : D} {ks : List (List Int)} {ds : List D} {k : List Int} {a : Addr} {n : Nat}
/-! ### d.get(k, x) -/
end
/-! ### mirrors -/
def clrM (d : D) : M D := fun m R _ => match d with
  | .ref a => (∃ (n : Nat) (ds : List D), m[n]? = some (a, .lst ds) ∧ R .non (m.set n (a, .lst []))) ∨ ∃ (n : Nat) (ks : List (List Int)) (ds : List D), m[n]? = some (a, .dI ks ds) ∧ R .non (m.set n (a, .dI [] []))
  | _ => False
def chkD (d : D) : M Unit := fun m R _ => (∃ ks ds, DicV m d ks ds) ∧ R () m
def getM (d : D) (ys : List D) : M D := fun m R _ => ∃ k y ks ds, ys = [keyD k, y] ∧ DicV m d ks ds ∧ ((∃ (i : Nat) (x : D), ks[i]? = some k ∧ ds[i]? = some x ∧ R x m) ∨ (k ∉ ks ∧ R y m))
section
variable {X : CD} {o e e2 : Expr} {ρ : Rn} {co : M D} {cs : M (List D)} {apos cpos : Pos}
end
section
variable {m : Led} {RD : D → Led → Prop} {E : XR} {d y : D} {ks : List (List Int)} {ds : List D} {k : List Int} {a : Addr}
end
end DL


namespace DL
open PySem PySem.Spec PySem.Calls PyProof.Rows L2 RZ
/-! ### a name that a loop sets, read behind it -/
def gotM (o : Option D) : M D := fun m R _ => ∃ d, o = some d ∧ R d m
end DL


namespace DL
open PySem PySem.Spec PySem.Calls PyProof.Rows L2 RZ
open PySem.W (EachIs AllAlike Sortable dataLe sorted_data)
/-! ### sorted of lists of data -/
section
variable {X : CD} {m : Led} {R : D → Led → Prop} {d : D} {ds : List D} {b : Bool}
end
def sortX (b : Bool) (zs : List D) : M D := fun m R _ => ∃ d ds, zs = [d] ∧ LstV m d ds ∧ (∀ x ∈ ds, Sh 19 x) ∧ AllAlike (ds.map py) ∧ Sortable (ds.map py) ∧ RNewL R m (ds.mergeSort (dataLe false py)) b
end DL


namespace DL
open PySem PySem.Spec PySem.Calls PyProof.Rows L2 RZ
/-! ### o[lo:hi], the new list to be changed -/
def slMM (d : D) (lo hi : Option Int) : M D := fun m R E => lstM d m (fun ds m' => ∀ p, R (.ref p) (m' ++ [(p, .lst (cutD ds lo hi))])) E
section
variable {X : CD} {m : Led} {R : D → Led → Prop} {d1 : D} {e : Expr} {ρ : Rn} {c : M D} {p2 pos : Pos}
end
end DL


namespace DL
open PySem PySem.Spec PySem.Calls PyProof.Rows L2 RZ
/-! ### own == other kinds -/
abbrev NotF (K : Frag) (cn : Str) : Prop := ∀ C, CnIs K cn C → PySem.W.notFirst K C (.type "dict") = true ∧ PySem.W.notFirst K C (.type "NoneType") = true
section
variable {X : CD} {a b : Expr} {ρ : Rn} {pos : Pos} {ca cb : M D} {cn : Str} {k n : Nat} {sp : SpX} {mg : Str → Option Value} {P : Program} {w : World} {K : Frag} {base : Heap} {m : Led} {R : D → Led → Prop} {E : XR} {d1 d2 : D}
def cmpX (cn : Str) (sp : SpX) (x y : D) : M D := fun m R E => cmpO cn sp x y m R E ∨ ∃ ns vs, ObjV m x cn ns vs ∧ (y = .non ∨ ∃ ks ds, DicV m y ks ds) ∧ sp [x, y] m R E
end
end DL


namespace DL
open PySem PySem.Spec PySem.Calls PyProof.Rows L2 RZ
abbrev ZObj (f0 f1 : Value) (TI TO : Addr) : Obj := { cls := .type "zip", dict := none, data := .fields #[f0, f1, .bool false, .ref TI, .ref TO], slots := #[] }
abbrev TObj (xs : List Value) : Obj := { cls := .type "tuple", data := .seq xs.toArray }
def ItAt (h : Heap) : Bool → Addr → Addr → Nat → Prop
  | true, it, l, i => h.IsListIter it l i
  | false, it, l, i => h.IsTupleIter it l i
def SrcAt (h : Heap) : Bool → Addr → List Value → Prop
  | true, l, xs => h.IsList l xs.toArray
  | false, l, xs => h.IsTuple l xs.toArray
theorem ItAt.at {h h' : Heap} {k : Bool} {it l : Addr} {i : Nat} (st : ItAt h k it l i) (e : ∀ o, h.get? it = some o → h'.get? it = some o) : ItAt h' k it l i := by
  cases k
  · exact Heap.IsTupleIter.at st e
  · exact Heap.IsListIter.at st e
theorem SrcAt.at {h h' : Heap} {k : Bool} {l : Addr} {xs : List Value} (st : SrcAt h k l xs) (e : ∀ o, h.get? l = some o → h'.get? l = some o) : SrcAt h' k l xs := by
  cases k
  · obtain ⟨o, ho, r⟩ := st
    exact ⟨o, e o ho, r⟩
  · obtain ⟨o, ho, r⟩ := st
    exact ⟨o, e o ho, r⟩
theorem ItAt.obj {h : Heap} {k : Bool} {it l : Addr} {i : Nat} (st : ItAt h k it l i) : ∃ o, h.get? it = some o ∧ ∀ v, o.data ≠ .cell v := by
  cases k
  · obtain ⟨o, ho, c, d⟩ := st
    exact ⟨o, ho, fun v q => by rw [d] at q; cases q⟩
  · obtain ⟨o, ho, c, d⟩ := st
    exact ⟨o, ho, fun v q => by rw [d] at q; cases q⟩
section
variable {prog : Program} {w : World} {A : Around} {E : Value → Shared → Prop} {s : Shared}
end
/-- the cells of a zip over the rows rs: the iterators at b, b + 1, .., their tuple, the owned tuple, the zip itself -/
structure ZAt (h : Heap) (b : Nat) (rs : List (Bool × Addr)) (i : Nat) (f0 f1 : Value) : Prop where
  z : h.get? (b + rs.length + 2) = some (ZObj f0 f1 (b + rs.length) (b + rs.length + 1))
  ti : h.get? (b + rs.length) = some (TObj ((List.range rs.length).map fun j => .ref (b + j)))
  to : ∃ kept : List Value, kept.length = rs.length ∧ h.get? (b + rs.length + 1) = some (TObj kept)
  its : ∀ (j : Nat) (k : Bool) (l : Nat), rs[j]? = some (k, l) → ItAt h k (b + j) l i
end DL


namespace DL
open PySem PySem.Spec PySem.Calls PyProof.Rows L2 RZ
def F0 (f0 : Value) : Prop := f0 = .none ∨ ∃ T : Addr, f0 = rawInt T
structure Off (b e : Nat) (h h' : Heap) : Prop where
  sz : h'.objs.size = h.objs.size
  out : ∀ c, (c < b ∨ e ≤ c) → h'.get? c = h.get? c
theorem Off.refl {b e : Nat} {h : Heap} : Off b e h h := ⟨rfl, fun _ _ => rfl⟩
section
variable {prog : Program} {w : World} {A : Around} {E : Value → Shared → Prop} {s : Shared}
end
end DL


namespace DL
open PySem PySem.Spec PySem.Calls PyProof.Rows L2 RZ
section
variable {prog : Program} {w : World} {A : Around} {E : Value → Shared → Prop} {s : Shared}
end
end DL


namespace DL
open PySem PySem.Spec PySem.Calls PyProof.Rows L2 RZ
section
variable {prog : Program} {w : World} {A : Around} {E : Value → Shared → Prop} {s : Shared}
end
def SrcAll (h : Heap) (rs : List (Bool × Addr)) : Prop := ∀ (j : Nat) (k : Bool) (l : Nat), rs[j]? = some (k, l) → ∃ items, SrcAt h k l items
section
variable {prog : Program} {w : World} {A : Around} {E : Value → Shared → Prop} {s : Shared}
end
end DL


namespace DL
open PySem PySem.Spec PySem.Calls PyProof.Rows L2 RZ
def SqK (K : Frag) (H : Hp) : Bool → Addr → List V → Prop
  | true, a, xs => SqL K H a xs
  | false, a, xs => SqT K H a xs
/-- xs: the column at i of the rows -/
def Zrow (K : Frag) (H : Hp) (rs : List (Bool × Addr)) (i : Nat) (xs : List V) : Prop :=
  xs.length = rs.length ∧ ∀ (j : Nat) (k : Bool) (l : Nat), rs[j]? = some (k, l) → ∃ ys x, SqK K H k l ys ∧ ys[i]? = some x ∧ xs[j]? = some x
def IteZ (K : Frag) (rs : List (Bool × Addr)) : It :=
  ⟨fun i H => ∃ xs, Zrow K H rs i xs, fun i H v H' => ∃ T xs, v = .ref T ∧ H T = none ∧ H' = upd H T (.tup xs) ∧ xs.length = rs.length ∧ ∀ (j : Nat) (k : Bool) (l : Nat) ys, rs[j]? = some (k, l) → SqK K H k l ys → ∃ x, ys[i]? = some x ∧ xs[j]? = some x,
    fun i H => ∃ k l ys, rs[0]? = some (k, l) ∧ SqK K H k l ys ∧ ys.length = i⟩
section
variable {X : Cx} {pins : List (Addr × Obj)} {σ : L2.St} {H : Hp} {s : Shared}
end
theorem mem_fp {b n c : Nat} : (c ∈ (List.range n).map (fun j => b + j)) ↔ (b ≤ c ∧ c < b + n) := by
  simp only [List.mem_map, List.mem_range]
  constructor
  · rintro ⟨j, h, rfl⟩; omega
  · intro h; exact ⟨c - b, by omega, by omega⟩
def ZTn (b : Nat) (rs : List (Bool × Addr)) (i : Nat) (h : Heap) : Prop := ∃ f0 f1, ZAt h b rs i f0 f1 ∧ F0 f0 ∧ (∃ q, f1 = .bool q) ∧ 0 < rs.length ∧ rs.length ≤ sizeLine ∧ ∀ (j : Nat) (k : Bool) (l : Nat), rs[j]? = some (k, l) → l < b
theorem ZAt.keep {h h' : Heap} {b : Nat} {rs : List (Bool × Addr)} {i : Nat} {f0 f1 : Value} (Z : ZAt h b rs i f0 f1) (k : ∀ c ∈ (List.range (rs.length + 3)).map (fun j => b + j), ∀ o, h.get? c = some o → h'.get? c = some o) : ZAt h' b rs i f0 f1 := by
  obtain ⟨kept, e1, e2⟩ := Z.to
  exact ⟨k _ (mem_fp.mpr (by omega)) _ Z.z, k _ (mem_fp.mpr (by omega)) _ Z.ti, ⟨kept, e1, k _ (mem_fp.mpr (by omega)) _ e2⟩, fun j kk l e => (Z.its j kk l e).at fun o ho => k _ (mem_fp.mpr (by have := (List.getElem?_eq_some_iff.mp e).1; omega)) o ho⟩
theorem ZAt.there {h : Heap} {b : Nat} {rs : List (Bool × Addr)} {i : Nat} {f0 f1 : Value} (Z : ZAt h b rs i f0 f1) (c : Nat) (hc : b ≤ c ∧ c < b + (rs.length + 3)) : ∃ o, h.get? c = some o ∧ ∀ v, o.data ≠ .cell v := by
  obtain ⟨kept, e1, e2⟩ := Z.to
  by_cases h1 : c < b + rs.length
  · have hj : c - b < rs.length := by omega
    have e0 : rs[c - b]? = some rs[c - b] := List.getElem?_eq_getElem hj
    have := (Z.its (c - b) _ _ e0).obj
    rw [show b + (c - b) = c from by omega] at this
    exact this
  · by_cases h2 : c = b + rs.length
    · subst h2; exact ⟨_, Z.ti, fun v q => nomatch q⟩
    · by_cases h3 : c = b + rs.length + 1
      · subst h3; exact ⟨_, e2, fun v q => nomatch q⟩
      · have h4 : c = b + rs.length + 2 := by omega
        subst h4; exact ⟨_, Z.z, fun v q => nomatch q⟩
end DL


namespace DL
open PySem PySem.Spec PySem.Calls PyProof.Rows L2 RZ
theorem vals_refs {rs : List (Bool × Addr)} {us : List Value} (h : Vals (rs.map fun r => V.ref r.2) us) : us = rs.map fun r => Value.ref r.2 := by
  induction rs generalizing us with
  | nil => cases h; rfl
  | cons r rs ih =>
    cases h with
    | cons h1 h2 =>
      cases h1
      rw [ih h2]
      rfl
def iZipS (K : Frag) (te : TE) : TI := fun σ H R => te σ H fun v H1 => ∃ a rs, v = .ref a ∧ (SqT K H1 a (rs.map fun r => V.ref r.2) ∨ SqL K H1 a (rs.map fun r => V.ref r.2)) ∧ 0 < rs.length ∧ (∀ (j : Nat) (k : Bool) (l : Nat), rs[j]? = some (k, l) → ∃ ys, SqK K H1 k l ys) ∧ R (IteZ K rs) H1
theorem SrcAt.lt {h : Heap} {k : Bool} {l : Addr} {xs : List Value} (st : SrcAt h k l xs) : l < h.objs.size := by
  cases k
  · obtain ⟨o, ho, _⟩ := st
    exact Heap.lt_size ho
  · obtain ⟨o, ho, _⟩ := st
    exact Heap.lt_size ho
/-- rows as data, their columns -/
def SeqS (ds : List D) (rss : List (List D)) : Prop := ds.length = rss.length ∧ ∀ (j : Nat) d r, ds[j]? = some d → rss[j]? = some r → Seq d r
def colD (rss : List (List D)) (i : Nat) : D := .tup (rss.map fun r => (r[i]?).getD .non)
def colsD (n : Nat) (rss : List (List D)) : List D := (List.range n).map (colD rss)
theorem SeqS.cons {d : D} {ds : List D} {r : List D} {rss : List (List D)} (h : SeqS (d :: ds) (r :: rss)) : Seq d r ∧ SeqS ds rss :=
  ⟨h.2 0 d r rfl rfl, by simpa using h.1, fun j d' r' h1 h2 => h.2 (j + 1) d' r' (by simpa using h1) (by simpa using h2)⟩
section
variable {X : CD} {e : Expr} {ρ : Rn} {m : Led} {R : List D → Led → Prop} {p p2 pos : Pos} {tg : Expr}
end
end DL


namespace DL
open PySem PySem.Spec PySem.Calls PyProof.Rows L2 RZ
/-! ### zip of a list and a tuple -/
def iZip2 (K : Frag) (ta : TA) : TI := fun σ H R => ta σ H fun vs H1 => ∃ (k1 : Bool) (l1 : Nat) (k2 : Bool) (l2 : Nat) (xs ys : List V), vs = [.ref l1, .ref l2] ∧ SqK K H1 k1 l1 xs ∧ SqK K H1 k2 l2 ys ∧ R (IteZ K [(k1, l1), (k2, l2)]) H1
theorem SqK.ex {K : Frag} {H H' : Hp} {k : Bool} {l : Addr} {xs : List V} (h : SqK K H k l xs) (e : Ex H H') : SqK K H' k l xs := by
  cases k
  · exact e.sqT h
  · exact e.sqL h
section
variable {X : CD} {a b : Expr} {ρ : Rn} {m : Led} {R : List D → Led → Prop} {p pos : Pos} {tg : Expr}
end
/-! ### mirrors -/
/-- code that the law never reaches -/
def noM : M D := fun _ _ _ => False
def zipX (d d2 : D) : M (List D) := fun m R _ => ∃ as bs, Seq d as ∧ Seq d2 bs ∧ as.length = bs.length ∧ R (zipD as bs) m
def zipS (d : D) : M (List D) := fun m R _ => ∃ ds rss n, (LstV m d ds ∨ d = .tup ds) ∧ SeqS ds rss ∧ rss ≠ [] ∧ (∀ r ∈ rss, r.length = n) ∧ R (colsD n rss) m
section
variable {X : CD} {a b e tg it : Expr} {ρ : Rn} {p p2 pos tpos : Pos} {mg : Str → Option Value} {c ca cb : M D}
end
end DL


namespace DL
open PySem PySem.Spec PySem.Calls PyProof.Rows L2 RZ
/-! ### a def with *rest -/
/-- the binding of a call's arguments, which may lay objects (the tuple of the rest) -/
def BindsV (s0 s : Shared) (fd : FuncData) (args : Args) (binds : List (Str × Value)) : Prop :=
  ∀ (M : Model) (A : Around) (E : Value → Shared → Prop) (Q : List (Str × Value) → Shared → Prop), Q binds s → wpAny M A (bindArgs fd args) Q E s0
structure FnOkV (P : Program) (w : World) (K : Frag) (mg : Str → Option Value) (base : Heap) (CX : CXT) (k : Nat) (f : Addr) (fd : FuncData) (ps : List Str) (sp : Sp) : Prop where
  len : ∀ vs H Q E, sp vs H Q E → vs.length = ps.length
  run : ∀ (A : Around) (outer : List PySem.Env) (s0 s : Shared) (H : Hp) (args : Args) (us : List Value) (vs : List V) (Q : VK) (E : XK), Room k A → K.In s0.heap → Env0 P w K mg base A outer s H → BindsV s0 s fd args (ps.zip us) → Vals vs us → sp vs H Q E →
    codeAny (model P w) A (.call (.ref f) args) (CR CX outer P w H s Q E) s0
theorem FnOkV.mono {P : Program} {w : World} {K : Frag} {mg : Str → Option Value} {base : Heap} {CX : CXT} {j k : Nat} {f : Addr} {fd : FuncData} {ps : List Str} {sp : Sp} (F : FnOkV P w K mg base CX j f fd ps sp) (h : j ≤ k) :
    FnOkV P w K mg base CX k f fd ps sp := ⟨F.len, fun A outer s0 s H args us vs Q E hr => F.run A outer s0 s H args us vs Q E (hr.mono h)⟩
section
variable {P : Program} {w : World} {K : Frag} {mg : Str → Option Value} {base : Heap}
/-- a def f(x, *rest), called with n values behind x -/
structure KnowsV (P : Program) (w : World) (K : Frag) (mg : Str → Option Value) (base : Heap) (k : Nat) (x : Str) (n : Nat) (sp : SpX) : Prop where
  fn : ∃ f fd ps, FnOkV P w K mg base (L2.CX P w) k f fd ps (liftX K mg sp) ∧ mg x = some (.ref f) ∧ PySem.W.keepIn K (.ref f) = true ∧ ps.length = 2 ∧ n ≤ 1000 ∧
    ∀ (s : Shared) (u : Value) (us : List Value), us.length = n → BindsV s { s with heap := s.heap.push (TObj us) } fd ⟨u :: us, []⟩ (ps.zip [u, .ref s.heap.objs.size])
theorem KnowsV.mono {P : Program} {w : World} {K : Frag} {mg : Str → Option Value} {base : Heap} {k j : Nat} {x : Str} {n : Nat} {sp : SpX} (G : KnowsV P w K mg base k x n sp) (h : k ≤ j) : KnowsV P w K mg base j x n sp := by
  obtain ⟨f, fd, ps, FO, r⟩ := G.fn
  exact ⟨f, fd, ps, FO.mono h, r⟩
end
section
variable {X : CD} {e : Expr} {es : List Expr} {ρ : Rn} {m : Led} {R : D → Led → Prop} {x : Str} {p pos : Pos} {k n : Nat} {sp : SpX} {E : XR}
end
/-- the values behind the first one come as a tuple -/
def varM (n : Nat) (sp : SpX) (ds : List D) : M D := fun m R E => ∃ d dr, ds = d :: dr ∧ dr.length = n ∧ sp [d, .tup dr] m R E
section
variable {X : CD} {e : Expr} {es : List Expr} {ρ : Rn} {x : Str} {p pos : Pos} {k n : Nat} {sp : SpX} {P : Program} {w : World} {K : Frag} {mg : Str → Option Value} {base : Heap} {c : M (List D)}
end
end DL


namespace DL
open PySem PySem.Spec PySem.Calls PyProof.Rows L2 RZ
/-! ### a, b, .. = a list; four names -/
section
variable {X : CD} {ρ : Rn} {m : Led} {pos : Pos}
end
def ut4 {α : Type} (d : D) (k : D → D → D → D → M α) : M α := fun m R E => ∃ a1 a2 a3 a4, d = .tup [a1, a2, a3, a4] ∧ k a1 a2 a3 a4 m R E
def ul2 {α : Type} (d : D) (k : D → D → M α) : M α := fun m R E => ∃ a1 a2, d = .lst [a1, a2] ∧ k a1 a2 m R E
def ul3 {α : Type} (d : D) (k : D → D → D → M α) : M α := fun m R E => ∃ a1 a2 a3, d = .lst [a1, a2, a3] ∧ k a1 a2 a3 m R E
def ul4 {α : Type} (d : D) (k : D → D → D → D → M α) : M α := fun m R E => ∃ a1 a2 a3 a4, d = .lst [a1, a2, a3, a4] ∧ k a1 a2 a3 a4 m R E
section
variable {X : CD} {body : List Stmt} {ρ : Rn} {σ τ : Type} {en : σ → Option Rn} {el : τ → Rn} {p0 q1 q2 q3 q4 : Pos} {x1 x2 x3 x4 : Str} {i1 i2 i3 i4 n0 : Nat} {d : D} {ρ1 : D → Rn} {ρ2 : D → D → Rn} {ρ3 : D → D → D → Rn} {ρ4 : D → D → D → D → Rn}
end
section
variable {P : Program} {w : World} {K : Frag} {mg : Str → Option Value} {base : Heap} {k n : Nat} {x qual : Str} {st : Stmt} {f : Addr} {fd : FuncData} {ps : List Str} {sp : SpX}
end
end DL


namespace DL
open PySem PySem.Spec PySem.Calls PyProof.Rows L2 RZ
/-! ### walks of lists that stand in the ledger -/
def Hold (a : Addr) (ds : List D) (m : Led) : Prop := ∃ n : Nat, m[n]? = some (a, MO.lst ds)
def GL (a : Addr) (n : Nat) (H : Hp) : Prop := ∃ xs, Rd H a (.lst xs) ∧ xs.length = n
def YL (K : Frag) (a : Addr) (ds0 ds : List D) (i : Nat) (H2 : Hp) (x : V) (H3 : Hp) : Prop := ∀ F2 m2, At K F2 m2 H2 → Hold a ds0 m2 → ∃ F3 d, ds[i]? = some d ∧ Step K F2 m2 H2 F3 m2 H3 ∧ Den K F3 x d
theorem Hold.read {K : Frag} {F H : Hp} {m : Led} {a : Addr} {ds : List D} (h : Hold a ds m) (at_ : At K F m H) : ∃ xs, H a = some (.lst xs) ∧ Dens K F xs ds := by
  obtain ⟨n, h⟩ := h
  obtain ⟨hh, ⟨xs, rfl, hx⟩, e⟩ := at_.get h
  exact ⟨xs, e, hx⟩
structure IXL (X : CD) (tg it : Expr) (ρ : Rn) (m : Led) (R : Addr → List D → List D → Led → Prop) : Prop where
  run : ∀ F σ H, Env X F σ ρ → AtX X F m H →
  SI X tg it σ H fun J H1 => ∃ a ds0 ds F1 m1, Step X.K F m H F1 m1 H1 ∧ R a ds0 ds m1 ∧ Walk J ds.length (GL a ds0.length) (YL X.K a ds0 ds)
section
variable {X : CD} {c tg it e : Expr} {body : List Stmt} {ρ : Rn} {m : Led} {E : EndsD} {pos p tpos : Pos} {R : Addr → List D → List D → Led → Prop}
def ForIL (X : CD) (tg : Expr) (body : List Stmt) (ρ : Rn) (E : EndsD) (a : Addr) (ds0 ds : List D) (m1 : Led) : Prop := ∃ I : Nat → Rn → Led → Prop, I 0 ρ m1 ∧ (∀ i ρ' m', I i ρ' m' → Hold a ds0 m') ∧
  (∀ i d ρ' m', ds[i]? = some d → I i ρ' m' → GX X tg d ρ' m' fun ρ2 m2 => SX X body ρ2 m2 { E with nx := I (i + 1), ct := I (i + 1), bk := E.nx }) ∧ ∀ ρ' m', I ds.length ρ' m' → E.nx ρ' m'
end
/-! ### mirrors -/
def ledL (u : D) : M (List D) := fun m R _ => ∃ p ds, u = .ref p ∧ Hold p ds m ∧ R ds m
def hold (u : D) (ds : List D) : M Unit := fun m R _ => (∃ p, u = .ref p ∧ Hold p ds m) ∧ R () m
def forH {σ τ : Type} (u : D) (ds0 : List D) (f : D → σ → M (Fl σ σ)) : List D → σ → M (Fl σ τ)
  | [], s => bnd (hold u ds0) fun _ => ret (.nx s)
  | d :: ds, s => bnd (hold u ds0) fun _ => bnd (f d s) fun fl => match fl with
    | .nx s' => forH u ds0 f ds s'
    | .ct s' => forH u ds0 f ds s'
    | .bk s' => ret (.nx s')
    | .rt d => ret (.rt d)
structure IvL (X : CD) (tg it : Expr) (ρ : Rn) (c : M D) (g : List D → List D) : Prop where
  run : ∀ (m : Led) (R : D → List D → Led → Prop) (E : XR), XA X ρ E → c m (fun u m1 => ∃ p ds, u = .ref p ∧ Hold p ds m1 ∧ R u ds m1) E → IXL X tg it ρ m fun a ds0 ds m1 => ds = g ds0 ∧ Hold a ds0 m1 ∧ R (.ref a) ds0 m1
section
variable {X : CD} {tg it a : Expr} {ρ : Rn} {ca : M D} {mg : Str → Option Value} {p pos tpos : Pos} {rest body : List Stmt} {σ τ σ1 : Type} {en : σ → Option Rn} {el : τ → Rn} {e1 : σ1 → Rn} {g : List D → List D}
end
end DL


namespace DL
open PySem PySem.Spec PySem.Calls PyProof.Rows L2 RZ
/-! ### [elt for y in a list of the ledger] -/
section
variable {X : CD} {elt it : Expr} {scope : Scope} {ρ : Rn} {m : Led} {R : D → Led → Prop} {pos py : Pos} {y : Str} {j : Nat}
def CompIL (X : CD) (scope : Scope) (elt : Expr) (y : Str) (j : Nat) (ρ : Rn) (R : List D → Led → Prop) (a : Addr) (ds0 ds : List D) (m1 : Led) : Prop := ∃ I : Nat → List D → Led → Prop, I 0 [] m1 ∧ (∀ i acc m', I i acc m' → Hold a ds0 m') ∧
  (∀ i d acc m', ds[i]? = some d → I i acc m' → ∃ ρ2, SetAt ρ j y d ρ2 ∧ ∀ (s : Shared) (H0 : Hp) (C : Addr) (cl : List (Str × Addr)) (fp : List Addr),
    EX (X.blk s H0 scope (compEnvC scope cl C X.env) fp) elt ρ2 m' fun z m3 => acc.length < 100000 ∧ I (i + 1) (acc ++ [z]) m3) ∧ ∀ acc m', I ds.length acc m' → R acc m'
end
/-- a comprehension over a ledger list: it stands at each turn and at the end -/
def compH (u : D) (ds0 : List D) (f : D → M (Option D)) : List D → List D → M (List D)
  | [], acc => bnd (hold u ds0) fun _ => ret acc
  | d :: ds, acc => fun m R E => bnd (hold u ds0) (fun _ => f d) m (fun o m' => match o with
    | some z => acc.length < 100000 ∧ compH u ds0 f ds (acc ++ [z]) m' R E
    | none => compH u ds0 f ds acc m' R E) NoX
section
variable {X : CD} {elt it : Expr} {scope : Scope} {ρ : Rn} {pos py : Pos} {y : Str} {j : Nat} {ca : M D} {f : D → M (Option D)} {g : List D → List D}
end
end DL


namespace DL
open PySem PySem.Spec PySem.Calls PyProof.Rows L2 RZ
/-- C(..), the instance stays in the ledger -/
def makeK (cn : Str) (sp : SpX) (ds : List D) (m : Led) (R : D → Led → Prop) (E : Str → Option (Str × D) → Led → Prop) : Prop := ∀ x dx, sp (.ref x :: ds) (m ++ [(dx, .own x), (x, .ins cn dx [] [])])
  (fun d m2 => d = .non ∧ R (.ref x) m2) fun nm fd m2 => E nm fd (m2.take m.length)
section
variable {X : CD} {o e : Expr} {es : List Expr} {ρ : Rn} {m : Led} {R : D → Led → Prop} {E : Str → Option (Str × D) → Led → Prop} {cn mt f : Str} {p pos apos : Pos} {k n : Nat} {sp : SpX}
end
section
variable {X : CD} {e o a b cc it : Expr} {es : List Expr} {rest : List Stmt} {ρ ρ' : Rn} {p p2 pos pos2 apos cpos pos' : Pos} {c ca cb ce co : M D} {cs : M (List D)} {ct : M Bool} {cn mt f x : Str} {k n i : Nat} {sp : SpX} {mg : Str → Option Value} {P : Program} {w : World} {K : Frag} {base : Heap} {σ τ : Type} {en : σ → Option Rn} {el : τ → Rn} {kk : M (Fl σ τ)} {d : D}
end
end DL


namespace DL
open PySem PySem.Spec PyProof.Rows L2 RZ
section
variable {X : CD} {sts rest A B : List Stmt} {ρ : Rn} {σ τ : Type} {en : σ → Option Rn} {el : τ → Rn} {ct : M Bool} {t : Expr} {pos : Pos}
end
end DL


namespace DL
open PySem PySem.Spec PySem.Calls PyProof.Rows L2 RZ
/-! ### x in xs, plain data -/
noncomputable def eqN (h : Heap) (d : PyData) (y : Value) : Bool := @decide (∃ d' as, Reads h y d' as ∧ d'.plain = true ∧ PyData.eqv d' d = true) (Classical.propDecidable _)
theorem eqN_of {h : Heap} {d d' : PyData} {y : Value} {as : List Addr} (r : Reads h y d' as) (p : d'.plain = true) : eqN h d y = PyData.eqv d' d := by
  unfold eqN
  cases e : PyData.eqv d' d with
  | true => exact @decide_eq_true _ (Classical.propDecidable _) ⟨d', as, r, p, e⟩
  | false =>
    refine @decide_eq_false _ (Classical.propDecidable _) ?_
    rintro ⟨d2, as2, r2, p2, e2⟩
    have := SeqAt.plain_unique d' d2 y as as2 p r r2
    subst this
    rw [e] at e2
    cases e2
def rInP (K : Frag) (neg : Bool) : R2 := fun x y H Q => ∃ p xs d es, y = .ref p ∧ (SqL K H p xs ∨ SqT K H p xs) ∧ Dp K H x d ∧ DpAll K H xs es ∧ d.plain = true ∧ (∀ e ∈ es, e.plain = true) ∧ d.depth ≤ 60 ∧ Q (.bl (if neg then !es.any (fun e => PyData.eqv e d) else es.any fun e => PyData.eqv e d)) H
section
variable {X : CD}
theorem in_all {A : Around} {K : Frag} {H : Hp} {s : Shared} (hh : ∀ (d : PyData) (x : V) (v : Value), Dp K H x d → RelV x v → ∃ as, Reads s.heap v d as) {x : Value} {d : PyData} {as : List Addr} (rx : Reads s.heap x d as) (pd : d.plain = true) (hu : A.units + 60 < cLine) (hd : d.depth ≤ 60) :
    ∀ {xs : List V} {es : List PyData} {us : List Value}, DpAll K H xs es → Vals xs us → (∀ e ∈ es, e.plain = true) → (∀ y ∈ us, SeqAt.EqAt A s y x (eqN s.heap d y)) ∧ us.any (eqN s.heap d) = es.any fun e => PyData.eqv e d
  | _, _, _, .nil, .nil, _ => ⟨(fun y hy => nomatch hy), rfl⟩
  | _, _, _, .cons q qs, .cons r rs, hp => by
    obtain ⟨bs, rd⟩ := hh _ _ _ q r
    obtain ⟨h1, h2⟩ := in_all hh rx pd hu hd qs rs fun e he => hp e (List.mem_cons_of_mem _ he)
    have pe := hp _ List.mem_cons_self
    have e1 := eqN_of (d := d) rd pe
    refine ⟨fun y hy => ?_, ?_⟩
    · rcases List.mem_cons.mp hy with rfl | hy
      · rw [e1]
        refine SeqAt.eqAt_plain _ _ A s _ _ _ _ rd rx pe pd ?_
        have := Nat.min_le_right (PyData.depth ‹PyData›) d.depth
        omega
      · exact h1 y hy
    · rw [List.any_cons, List.any_cons, e1, h2]
theorem op_inP (hu : X.A.units + 64 < cLine) : OpR X.toCx (compareOp .In) (rInP X.K false) := by
  intro pins s σ H x y v u Q I rx ry h
  obtain ⟨p, xs, d, es, rfl, hq, hd, hs, pd, pe, hz, q⟩ := h
  cases ry
  obtain ⟨as, r1⟩ := Dp.reads I d x v hd rx
  have hu1 : X.A.in1.units + 60 < cLine := by have : X.A.in1.units = X.A.units + 1 := rfl; omega
  rcases hq with hq | hq
  · obtain ⟨its, r, pl, _⟩ := I.list hq
    obtain ⟨h1, h2⟩ := in_all (A := X.A.in1) (fun d x v hd rx => Dp.reads I d x v hd rx) r1 pd hu1 hz hs r pe
    refine SeqAt.in_listAt (eqN s.heap d) pl.isList (fun w hw => h1 w (by simpa using hw)) ⟨.bl _, H, I, rfl, ?_⟩
    rw [show its.toArray.any (eqN s.heap d) = its.any (eqN s.heap d) by simp, h2]
    exact q
  · obtain ⟨its, r, pl, _⟩ := I.tuple hq
    obtain ⟨h1, h2⟩ := in_all (A := X.A.in1) (fun d x v hd rx => Dp.reads I d x v hd rx) r1 pd hu1 hz hs r pe
    refine SeqAt.in_tupleAt (eqN s.heap d) pl (fun w hw => h1 w (by simpa using hw)) ⟨.bl _, H, I, rfl, ?_⟩
    rw [show its.toArray.any (eqN s.heap d) = its.any (eqN s.heap d) by simp, h2]
    exact q
end
/-- x in a list or a tuple of plain data; the list may be one of the ledger -/
def inPB (neg : Bool) (x y : D) : M Bool := fun m R _ => ∃ (x' : D) (ds : List D), DW m x x' ∧ (LstV m y ds ∨ y = .tup ds) ∧ Sh 20 x' ∧ (∀ d ∈ ds, Sh 20 d) ∧ R (if neg then !ds.any (fun d => eqD d x') else ds.any fun d => eqD d x') m
theorem any_pys (d : PyData) : ∀ ds : List D, (pys ds).any (fun e => PyData.eqv e d) = ds.any fun x => PyData.eqv (py x) d
  | [] => rfl
  | x :: ds => by simp only [pys, List.any_cons, any_pys d ds]
theorem pys_mem {e : PyData} : ∀ {ds : List D}, e ∈ pys ds → ∃ x ∈ ds, e = py x
  | [], h => by simp [pys] at h
  | x :: ds, h => by
    simp only [pys, List.mem_cons] at h
    rcases h with rfl | h
    · exact ⟨x, List.mem_cons_self, rfl⟩
    · obtain ⟨y, hy, e⟩ := pys_mem h
      exact ⟨y, List.mem_cons_of_mem _ hy, e⟩
section
variable {X : CD} {a b : Expr} {ρ : Rn} {pos : Pos} {ca cb : M D} {m : Led} {x y : D}
theorem inP_ok {neg : Bool} {op : CmpOp} {R : Bool → Led → Prop} {E : XR} (ho : OpR X.toCx (compareOp op) (rInP X.K neg)) (h : inPB neg x y m R E) : OX X (compareOp op) x y m fun d m' => ∃ k, d = .bl k ∧ R k m' := by
  obtain ⟨x', ds, hx, hy, sx, sd, k⟩ := h
  refine OX.of ho fun F H v u q1 q2 at_ => ?_
  have dx := hx.dp at_.toAt 20 sx q1
  have pe : ∀ e ∈ pys ds, e.plain = true := fun e he => by
    obtain ⟨z, hz, rfl⟩ := pys_mem he
    exact ((sd z hz).ok).1
  have ke : ∀ k' : Bool, k' = (if neg then !(pys ds).any (fun e => PyData.eqv e (py x')) else (pys ds).any fun e => PyData.eqv e (py x')) → R k' m := fun k' e => by
    rw [any_pys] at e
    rw [e]
    exact k
  rcases hy with hy | rfl
  · obtain ⟨p, xs, rfl, e1, s1⟩ := hy.read at_.toAt q2
    exact ⟨p, xs, _, _, rfl, .inl (.inl e1), dx, DpAll.up at_.toAt.sub (dp_all (fun d v => Den.dp 20 d v) ds _ sd s1), (sx.ok).1, pe, Nat.le_trans (sx.ok).2 (by decide), PQ.now at_.toAt (.bl _) ⟨_, rfl, ke _ rfl⟩⟩
  · obtain ⟨p, xs, rfl, e1, s1⟩ := tup_read at_.toAt q2
    exact ⟨p, xs, _, _, rfl, .inr e1, dx, DpAll.up at_.toAt.sub (dp_all (fun d v => Den.dp 20 d v) ds _ sd s1), (sx.ok).1, pe, Nat.le_trans (sx.ok).2 (by decide), PQ.now at_.toAt (.bl _) ⟨_, rfl, ke _ rfl⟩⟩
theorem tv_inP (hu : X.A.units + 64 < cLine) (ha : Ev X a ρ ca) (hb : Ev X b ρ cb) (hm : behindInMarks .In b = false := by first | exact nobehind _ (by decide) (by decide) | rfl | with_unfolding_all rfl) : Tv X (.Compare a [.In] [b] pos) ρ (bnd ca fun x => bnd cb fun y => inPB false x y) := ⟨fun m R E xa h =>
  t_cmp ((ha.run m _ E xa h).mono fun d1 m1 h1 => (hb.run m1 _ E xa h1).mono fun d2 m2 h2 => inP_ok (op_inP hu) h2) hm⟩
end
/-- without bools: the answer is whether the item is there -/
theorem any_mem {ds : List D} {x : D} (hd : ∀ d ∈ ds, NB 20 d) (hx : NB 20 x) : (ds.any fun d => eqD d x) = true ↔ x ∈ ds := by
  rw [List.any_eq_true]
  constructor
  · rintro ⟨d, h, e⟩
    have := (eqv_iff 20 20 d x (hd d h) hx).mp e
    subst this
    exact h
  · intro h
    exact ⟨x, h, (eqv_iff 20 20 x x hx hx).mpr rfl⟩
end DL


namespace DL
open PySem PySem.Spec PySem.Calls PyProof.Rows L2 RZ
/-! ### xs += ys, xs a list of the ledger -/
def rExt3 : R2 := fun x y H Q => ∃ l b xs zs, x = .ref l ∧ y = .ref b ∧ H l = some (.lst xs) ∧ Rd H b (.lst zs) ∧ xs.length + zs.length ≤ sizeLine ∧ Q (.ref l) (upd H l (.lst (xs ++ zs)))
section
variable {X : Cx}
end
def extM (a b : D) : M D := fun m R _ => ∃ p n ds es, a = .ref p ∧ m[n]? = some (p, .lst ds) ∧ LstV m b es ∧ ds.length + es.length ≤ 100000 ∧ R (.ref p) (m.set n (p, .lst (ds ++ es)))
section
variable {X : CD} {rest : List Stmt} {ρ : Rn} {σ τ : Type} {en : σ → Option Rn} {el : τ → Rn} {ce : M D} {e : Expr} {pos pos' : Pos} {x : Str} {i : Nat} {kd : D → M (Fl σ τ)} {ρd : D → Rn}
end
end DL


namespace DL
open PySem PySem.Spec PySem.Calls PyProof.Rows L2 RZ
/-! ### sum of a tuple of ints -/
section
variable {prog : Program} {w : World} {A : Around} {E : Value → Shared → Prop} {s : Shared} {l : Addr} {xs : Array (Int × Tok)}
end
def rSumT (K : Frag) : List V → Hp → VK → Prop := fun vs H Q => ∃ (a : Addr) (ns : List Int), vs = [V.ref a] ∧ SqT K H a (ns.map V.int) ∧ Q (.int ns.sum) H
section
variable {X : CD} {m : Led} {R : D → Led → Prop} {E : XR}
def sumQ (ds : List D) : M D := fun m R E => (∃ ns : List Int, ds = [.tup (ns.map D.int)] ∧ R (.int ns.sum) m) ∨ sumM ds m R E
end
end DL


namespace DL
open PySem PySem.Spec PySem.Calls PyProof.Rows L2 RZ

/-! ### {k: v for y, z in it if ..} -/
def CompDP (X : CD) (scope : Scope) (ifs : List Expr) (kx vx : Expr) (y : Str) (j : Nat) (z : Str) (k : Nat) (ρ : Rn) (R : List (List Int) → List D → Led → Prop) (ds : List D) (m1 : Led) : Prop := ∃ I : Nat → List (List Int) → List D → Led → Prop, I 0 [] [] m1 ∧
  (∀ i d ks vs m', ds[i]? = some d → I i ks vs m' → ∃ d1 d2 ρ1 ρ2, d = .tup [d1, d2] ∧ SetAt ρ j y d1 ρ1 ∧ SetAt ρ1 k z d2 ρ2 ∧ ∀ (s : Shared) (H0 : Hp) (C : Addr) (cl : List (Str × Addr)) (fp : List Addr),
    match ifs with
    | [] => EX (X.blk s H0 scope (compEnvC scope cl C X.env) fp) kx ρ2 m' fun kd m2 => ∀ (s : Shared) (H0 : Hp) (C : Addr) (cl : List (Str × Addr)) (fp : List Addr), EX (X.blk s H0 scope (compEnvC scope cl C X.env) fp) vx ρ2 m2 fun v m3 => PutD ks vs kd v fun ks vs => I (i + 1) ks vs m3
    | [c] => TX (X.blk s H0 scope (compEnvC scope cl C X.env) fp) c ρ2 m' fun b m1 => (b = true → ∀ (s : Shared) (H0 : Hp) (C : Addr) (cl : List (Str × Addr)) (fp : List Addr), EX (X.blk s H0 scope (compEnvC scope cl C X.env) fp) kx ρ2 m1 fun kd m2 => ∀ (s : Shared) (H0 : Hp) (C : Addr) (cl : List (Str × Addr)) (fp : List Addr), EX (X.blk s H0 scope (compEnvC scope cl C X.env) fp) vx ρ2 m2 fun v m3 => PutD ks vs kd v fun ks vs => I (i + 1) ks vs m3) ∧ (b = false → I (i + 1) ks vs m1)
    | _ => False) ∧ ∀ ks vs m', I ds.length ks vs m' → R ks vs m'
section
variable {X : CD} {kx vx it t : Expr} {scope : Scope} {ρ : Rn} {m : Led} {R : D → Led → Prop} {pos p0 p1 p2 : Pos} {y z : Str} {j k n0 : Nat} {ifs : List Expr} {f : D → M (Option (D × D))} {ci : M (List D)} {ck cv : D → D → M D} {ct : D → D → M Bool} {ρ3 : D → D → Rn}
def un2P (d : D) (f : D → D → M (Option (D × D))) : M (Option (D × D)) := fun m R E => ∃ a b, d = .tup [a, b] ∧ f a b m R E
structure CvDP (X : CD) (scope : Scope) (ifs : List Expr) (kx vx : Expr) (y : Str) (j : Nat) (z : Str) (k : Nat) (ρ : Rn) (f : D → M (Option (D × D))) : Prop where
  run : ∀ (d : D) (m : Led) (R : Option (D × D) → Led → Prop), f d m R NoX → ∃ d1 d2 ρ1 ρ2, d = .tup [d1, d2] ∧ SetAt ρ j y d1 ρ1 ∧ SetAt ρ1 k z d2 ρ2 ∧ ∀ (s : Shared) (H0 : Hp) (C : Addr) (cl : List (Str × Addr)) (fp : List Addr),
    match ifs with
    | [] => EX (X.blk s H0 scope (compEnvC scope cl C X.env) fp) kx ρ2 m fun kd m2 => ∀ (s : Shared) (H0 : Hp) (C : Addr) (cl : List (Str × Addr)) (fp : List Addr), EX (X.blk s H0 scope (compEnvC scope cl C X.env) fp) vx ρ2 m2 fun v m3 => R (some (kd, v)) m3
    | [c] => TX (X.blk s H0 scope (compEnvC scope cl C X.env) fp) c ρ2 m fun b m1 => (b = true → ∀ (s : Shared) (H0 : Hp) (C : Addr) (cl : List (Str × Addr)) (fp : List Addr), EX (X.blk s H0 scope (compEnvC scope cl C X.env) fp) kx ρ2 m1 fun kd m2 => ∀ (s : Shared) (H0 : Hp) (C : Addr) (cl : List (Str × Addr)) (fp : List Addr), EX (X.blk s H0 scope (compEnvC scope cl C X.env) fp) vx ρ2 m2 fun v m3 => R (some (kd, v)) m3) ∧ (b = false → R none m1)
    | _ => False
theorem CvDP.I (hc : CvDP X scope ifs kx vx y j z k ρ f) {ds : List D} {m : Led} {R : List (List Int) × List D → Led → Prop} {E : XR} (h : dcM f ds [] [] m R E) : CompDP X scope ifs kx vx y j z k ρ (fun ks vs m' => R (ks, vs) m') ds m := by
  refine ⟨fun i ks vs m' => dcM f (ds.drop i) ks vs m' R E, h, fun i d ks vs m' hd hI => ?_, fun ks vs m' hI => ?_⟩
  · dsimp only at hI
    rw [drop_at hd] at hI
    obtain ⟨d1, d2, ρ1, ρ2, e, h1, h1', h2⟩ := hc.run d m' _ hI
    refine ⟨d1, d2, ρ1, ρ2, e, h1, h1', fun s H0 C cl fp => ?_⟩
    have h5 := h2 s H0 C cl fp
    rcases ifs with _ | ⟨c, _ | ⟨_, _⟩⟩ <;> exact h5
  · dsimp only at hI
    rw [List.drop_length] at hI
    exact hI
end
end DL


namespace DL
open PySem PySem.Spec PySem.Calls PyProof.Rows L2 RZ
/-! ### x in xs, as a value -/
def inSM (neg : Bool) (x y : D) : M D := bnd (inSB neg x y) blM
section
variable {X : CD} {a b : Expr} {ρ : Rn} {pos : Pos} {ca cb : M D}
end
end DL


namespace DL
open PySem PySem.Spec PySem.Calls PyProof.Rows L2 RZ

/-! ### displays of dicts with several keys, tuples of ints -/
section
variable {X : CD} {ρ : Rn} {m : Led} {pos : Pos}
def KVs (K : Frag) (F : Hp) : List (Value × Value) → List (List Int × D) → Prop
  | [], [] => True
  | (a, b) :: vs, (k, d) :: kvs => (∃ y, RelV y a ∧ Den K F y (keyD k)) ∧ (∃ z, RelV z b ∧ Den K F z d) ∧ KVs K F vs kvs
  | _, _ => False
theorem KVs.mono {K : Frag} {F F' : Hp} (e : Ex F F') : ∀ {vs : List (Value × Value)} {kvs : List (List Int × D)}, KVs K F vs kvs → KVs K F' vs kvs
  | [], [], _ => trivial
  | (_, _) :: _, (_, _) :: _, ⟨⟨y, h1, h2⟩, ⟨z, h3, h4⟩, h5⟩ => ⟨⟨y, h1, h2.mono e⟩, ⟨z, h3, h4.mono e⟩, KVs.mono e h5⟩
  | [], _ :: _, h => h.elim
  | _ :: _, [], h => h.elim
def keyK {α : Type} (d : D) (k : List Int → M α) : M α := fun m R E => ∃ kk, d = keyD kk ∧ k kk m R E
def prsM : List (M D × M D) → M (List (List Int × D))
  | [] => ret []
  | (ck, cv) :: r => bnd ck fun d => bnd cv fun v => keyK d fun k => bnd (prsM r) fun t => ret ((k, v) :: t)
def putNM (d : D) (kvs : List (List Int × D)) : M D := fun m R _ => match d with
  | .ref p => ∃ n, m[n]? = some (p, .dI [] []) ∧ (kvs.map (·.1)).Nodup ∧ R (.ref p) (m.set n (p, .dI (kvs.map (·.1)) (kvs.map (·.2))))
  | _ => False
inductive EvP (X : CD) (ρ : Rn) : List (Expr × Expr) → List (M D × M D) → Prop
  | nil : EvP X ρ [] []
  | cons {kx vx : Expr} {ck cv : M D} {ps : List (Expr × Expr)} {cs : List (M D × M D)} : Ev X kx ρ ck → Ev X vx ρ cv → EvP X ρ ps cs → EvP X ρ ((kx, vx) :: ps) ((ck, cv) :: cs)
theorem EvP.len {ps : List (Expr × Expr)} {cs : List (M D × M D)} (h : EvP X ρ ps cs) : ps.length = cs.length := by
  induction h with
  | nil => rfl
  | cons _ _ _ ih => simp [ih]
theorem KVs.len {K : Frag} {F : Hp} : ∀ {vs : List (Value × Value)} {kvs : List (List Int × D)}, KVs K F vs kvs → kvs.length = vs.length
  | [], [], _ => rfl
  | (_, _) :: _, (_, _) :: _, ⟨_, _, h5⟩ => by simp [KVs.len h5]
  | [], _ :: _, h => h.elim
  | _ :: _, [], h => h.elim
end
end DL


namespace DL
open PySem PySem.Spec PySem.Calls PyProof.Rows L2 RZ

/-! ### sorted(d): the keys of a dict, tuples of ints -/
section
variable {X : CD} {m : Led} {R : D → Led → Prop} {d : D} {ks : List (List Int)} {ds : List D} {b : Bool}
def sortH (b : Bool) (zs : List D) : M D := fun m R E => match zs with
  | [d] => ∃ (ks : List (List Int)) (ds : List D), DicV m d ks ds ∧ SrtOk ks ∧ ∀ ks' : List (List Int), ks'.Perm ks → ks'.Pairwise (fun a c => lexI c a = false) → RNewL R m (ks'.map keyD) b
  | _ => False
end
end DL


namespace DL
open PySem PySem.Spec PySem.Calls PyProof.Rows L2 RZ

/-! ### calls whose arguments are read as frozen: the whole ledger stays as it is -/
mutual
inductive Thw (m : Led) : D → D → Prop
  | same (d : D) : Thw m d d
  | lst {n : Nat} {a : Addr} {es es' : List D} : m[n]? = some (a, .lst es) → Thws m es es' → Thw m (.ref a) (.lst es')
  | dI {n : Nat} {a : Addr} {ks : List (List Int)} {es es' : List D} : m[n]? = some (a, .dI ks es) → Thws m es es' → Thw m (.ref a) (.dI ks es')
  | tup {es es' : List D} : Thws m es es' → Thw m (.tup es) (.tup es')
  | lstF {es es' : List D} : Thws m es es' → Thw m (.lst es) (.lst es')
inductive Thws (m : Led) : List D → List D → Prop
  | nil : Thws m [] []
  | cons {d d' : D} {es es' : List D} : Thw m d d' → Thws m es es' → Thws m (d :: es) (d' :: es')
end
theorem Thws.same (m : Led) : ∀ ds : List D, Thws m ds ds
  | [] => .nil
  | d :: ds => .cons (.same d) (Thws.same m ds)
inductive Apt (m : Led) : D → Prop
  | atom {d : D} (h : noL d = true) : Apt m d
  | tup {xs : List D} (h : ∀ x ∈ xs, Apt m x) : Apt m (.tup xs)
  | dI {ks : List (List Int)} {vs : List D} (hm : ∀ q ∈ m, ∃ es, q.2 = MO.lst es) (h : ∀ x ∈ vs, Apt m x) : Apt m (.dI ks vs)
  | lst {xs : List D} (hm : ∀ q ∈ m, ∀ es, q.2 = MO.lst es → es.length ≠ xs.length) (h : ∀ x ∈ xs, Apt m x) : Apt m (.lst xs)
section
variable {K : Frag} {F H : Hp} {m : Led}
end
def thwS (sp : SpX) : SpX := fun ds m R _ => ∃ ds', Thws m ds ds' ∧ sp ds' [] (fun r m2 => m2 = [] ∧ Apt m r ∧ R r m) fun _ _ _ => False
theorem FnOk.imp {P : Program} {w : World} {K : Frag} {mg : Str → Option Value} {base : Heap} {CX : CXT} {k : Nat} {f : Addr} {fd : FuncData} {ps : List Str} {sp sp' : Sp} (h : FnOk P w K mg base CX k f fd ps sp) (i : ∀ vs H Q E, sp' vs H Q E → sp vs H Q E) : FnOk P w K mg base CX k f fd ps sp' :=
  ⟨fun vs H Q E z => h.len vs H Q E (i vs H Q E z), fun A outer s H args us vs Q E hr e0 hb r z => h.run A outer s H args us vs Q E hr e0 hb r (i vs H Q E z)⟩
section
variable {P : Program} {w : World} {K : Frag} {mg : Str → Option Value} {base : Heap} {k : Nat} {x : Str} {n : Nat} {dd : List D} {ks : List Str} {sp : SpX}
end
end DL


namespace DL
open PySem PySem.Spec PySem.Calls PyProof.Rows L2 RZ

/-! ### list(range(a, b)) -/
section
variable {X : CD} {a b : Expr} {ρ : Rn} {m : Led} {p p2 pos pos2 : Pos} {mg : Str → Option Value} {ca cb : M D}
def lrgG2 (bb : Bool) (x y : D) : M D := fun m R _ => match x, y with
  | .int i, .int j => (-100000 ≤ i ∧ i ≤ 100000 ∧ -100000 ≤ j ∧ j ≤ 100000) ∧ RNewL R m (rangeD i (j - i).toNat) bb
  | _, _ => False
end
end DL


namespace DL
open PySem PySem.Spec PySem.Calls PyProof.Rows L2 RZ

/-! ### [elt for y in a list of the ledger if c]: frozen, or in the ledger itself -/
section
variable {X : CD} {elt it : Expr} {ifs : List Expr} {scope : Scope} {ρ : Rn} {m : Led} {R : D → Led → Prop} {pos py : Pos} {y : Str} {j : Nat}
def CompIL2 (X : CD) (scope : Scope) (ifs : List Expr) (elt : Expr) (y : Str) (j : Nat) (ρ : Rn) (R : List D → Led → Prop) (a : Addr) (ds0 ds : List D) (m1 : Led) : Prop := ∃ I : Nat → List D → Led → Prop, I 0 [] m1 ∧ (∀ i acc m', I i acc m' → Hold a ds0 m') ∧
  (∀ i d acc m', ds[i]? = some d → I i acc m' → ∃ ρ2, SetAt ρ j y d ρ2 ∧ ∀ (s : Shared) (H0 : Hp) (C : Addr) (cl : List (Str × Addr)) (fp : List Addr),
    match ifs with
    | [] => EX (X.blk s H0 scope (compEnvC scope cl C X.env) fp) elt ρ2 m' fun z m3 => acc.length < 100000 ∧ I (i + 1) (acc ++ [z]) m3
    | [c] => TX (X.blk s H0 scope (compEnvC scope cl C X.env) fp) c ρ2 m' fun k m2 => (k = true → ∀ (s : Shared) (H0 : Hp) (C : Addr) (cl : List (Str × Addr)) (fp : List Addr), EX (X.blk s H0 scope (compEnvC scope cl C X.env) fp) elt ρ2 m2 fun z m3 => acc.length < 100000 ∧ I (i + 1) (acc ++ [z]) m3) ∧ (k = false → I (i + 1) acc m2)
    | _ => False) ∧ ∀ acc m', I ds.length acc m' → R acc m'
end
section
variable {X : CD} {elt it : Expr} {ifs : List Expr} {scope : Scope} {ρ : Rn} {pos py : Pos} {y : Str} {j : Nat} {ca : M D} {f : D → M (Option D)} {g : List D → List D}
theorem IXL.mono {tg it : Expr} {m : Led} {R R' : Addr → List D → List D → Led → Prop} (h : IXL X tg it ρ m R) (q : ∀ a ds0 ds m1, R a ds0 ds m1 → R' a ds0 ds m1) : IXL X tg it ρ m R' :=
  ⟨fun F σ H en at_ => (h.run F σ H en at_).mono fun J H1 ⟨a, ds0, ds, F1, m1, st, r, w⟩ => ⟨a, ds0, ds, F1, m1, st, q _ _ _ _ r, w⟩⟩
theorem CompIL2.mono {R R' : List D → Led → Prop} {a : Addr} {ds0 ds : List D} {m1 : Led} (h : CompIL2 X scope ifs elt y j ρ R a ds0 ds m1) (q : ∀ acc m', R acc m' → R' acc m') : CompIL2 X scope ifs elt y j ρ R' a ds0 ds m1 := by
  obtain ⟨I, h1, h2, h3, h4⟩ := h
  exact ⟨I, h1, h2, h3, fun acc m' z => q _ _ (h4 acc m' z)⟩
variable {rest : List Stmt} {σ τ : Type} {en : σ → Option Rn} {el : τ → Rn} {ρd : D → Rn} {kd : D → M (Fl σ τ)} {x : Str} {i : Nat} {px spos : Pos}
end
/-! ### an expression or a test with one list of the ledger read as frozen -/
def stillA (d : D) (c : D → M D) : M D := fun m R _ => match d with
  | .ref a => ∃ (n : Nat) (ds ds' : List D), m[n]? = some (a, .lst ds) ∧ Thws m ds ds' ∧ c (.lst ds') [] (fun r m2 => m2 = [] ∧ Apt m r ∧ R r m) fun _ _ _ => False
  | d => c d m R fun _ _ _ => False
def stillT (d : D) (c : D → M Bool) : M Bool := fun m R _ => match d with
  | .ref a => ∃ (n : Nat) (ds ds' : List D), m[n]? = some (a, .lst ds) ∧ Thws m ds ds' ∧ c (.lst ds') [] (fun r m2 => m2 = [] ∧ R r m) fun _ _ _ => False
  | d => c d m R fun _ _ _ => False
section
variable {X : CD} {e : Expr} {ρ ρ' : Rn} {m : Led} {x : Str} {i n : Nat} {p : Addr} {ds ds' : List D} {d : D}
end
/-! ### cells of the ledger that are not needed any more: forgotten -/
def subS (sp : SpX) : SpX := fun ds m R E => sp ds m (fun d m2 => ∃ m3, m3.Sublist m2 ∧ R d m3) E
theorem At.sub2 {K : Frag} {F H : Hp} {m m3 : Led} (h : m3.Sublist m) (a : At K F m H) : At K F m3 H := ⟨a.sub, fun p hp => a.led p (h.subset hp), fun p hp => a.dis p (h.subset hp), (h.map (·.1)).nodup a.nod⟩
theorem Step.sub2 {K : Frag} {F F2 H H2 : Hp} {m m2 m3 : Led} (h : m3.Sublist m2) (s : Step K F m H F2 m2 H2) : Step K F m H F2 m3 H2 := ⟨s.at2.sub2 h, s.ex, s.keep, s.frF, fun x hx => s.frM x ((h.map (·.1)).subset hx)⟩
theorem liftX_sub {K : Frag} {mg : Str → Option Value} {sp : SpX} {vs : List V} {H : Hp} {Q : VK} {E : XK} (h : liftX K mg (subS sp) vs H Q E) : liftX K mg sp vs H Q E := by
  obtain ⟨F, m, ds, R, XR, hd, at_, hs, k1, k2⟩ := h
  exact ⟨F, m, ds, _, XR, hd, at_, hs, fun d m2 v F2 H2 ⟨m3, h3, r⟩ st q => k1 d m3 v F2 H2 r (st.sub2 h3) q, k2⟩
section
variable {P : Program} {w : World} {K : Frag} {mg : Str → Option Value} {base : Heap} {k : Nat} {x : Str} {n : Nat} {dd : List D} {ks : List Str} {sp : SpX}
theorem KnowsX.sub (G : KnowsX P w K mg base k x n dd sp) : KnowsX P w K mg base k x n dd (subS sp) := by
  obtain ⟨f, fd, ps, ds, dvs, FO, r⟩ := G.fn
  exact ⟨f, fd, ps, ds, dvs, FO.imp fun vs H Q E z => liftX_sub z, r⟩
theorem KnowsN.sub (G : KnowsN P w K mg base k x n ks sp) : KnowsN P w K mg base k x n ks (subS sp) := by
  obtain ⟨f, fd, ps, FO, r⟩ := G.fn
  exact ⟨f, fd, ps, FO.imp fun vs H Q E z => liftX_sub z, r⟩
end
end DL


namespace DL
open PySem PySem.Spec PySem.Calls PyProof.Rows L2 RZ
/-! ### zip(zip(*rows), costs): a zip over a zip and a list or tuple -/
section
variable {prog : Program} {w : World} {A : Around} {E : Value → Shared → Prop} {s : Shared}
end
structure Z2At (h : Heap) (b c : Nat) (rs : List (Bool × Addr)) (k : Bool) (l i : Nat) (g0 g1 f0 f1 : Value) : Prop where
  le : b + rs.length + 3 ≤ c
  inn : ZAt h b rs i g0 g1
  it : ItAt h k c l i
  ti : h.get? (c + 1) = some (TObj [.ref (b + rs.length + 2), .ref c])
  to : ∃ kept : List Value, kept.length = 2 ∧ h.get? (c + 2) = some (TObj kept)
  z : h.get? (c + 3) = some (ZObj f0 f1 (c + 1) (c + 2))
def Out2 (b c n a : Nat) : Prop := (a < b ∨ b + n + 3 ≤ a) ∧ (a < c ∨ c + 4 ≤ a)
section
variable {prog : Program} {w : World} {A : Around} {E : Value → Shared → Prop} {s : Shared}
/-- where the walk of the two iterators stands -/
structure Mid (hp hg : Heap) (b c : Nat) (rs : List (Bool × Addr)) (k : Bool) (l i j : Nat) (f0 f1 : Value) (xs : List Value) : Prop where
  z : hg.get? (c + 3) = some (ZObj f0 f1 (c + 1) (c + 2))
  ti : hg.get? (c + 1) = some (TObj [.ref (b + rs.length + 2), .ref c])
  inn : ∃ p0 p1, ZAt hg b rs (if 0 < j then i + 1 else i) p0 p1 ∧ F0 p0 ∧ (∃ q, p1 = .bool q)
  it : ItAt hg k c l (if 1 < j then i + 1 else i)
  sz : hg.objs.size = hp.objs.size + if 0 < j then 1 else 0
  out : ∀ a o, Out2 b c rs.length a → hp.get? a = some o → hg.get? a = some o
  new : 0 < j → hg.get? hp.objs.size = some (TObj xs)
variable {b c : Nat} {rs : List (Bool × Addr)} {k : Bool} {l i : Nat} {f0 f1 : Value} {xs items : List Value} {x : Value} {hp : Heap}
end
end DL


namespace DL
open PySem PySem.Spec PySem.Calls PyProof.Rows L2 RZ
section
variable {prog : Program} {w : World} {A : Around} {E : Value → Shared → Prop} {s : Shared} {b c : Nat} {rs : List (Bool × Addr)} {k : Bool} {l i : Nat} {f0 f1 g0 g1 : Value} {xs items : List Value} {x : Value} {hp : Heap}
end
section
variable {prog : Program} {w : World} {A : Around} {E : Value → Shared → Prop} {s : Shared}
end
end DL


namespace DL
open PySem PySem.Spec PySem.Calls PyProof.Rows L2 RZ
def fp2 (b c n : Nat) : List Addr := (List.range (n + 3)).map (fun j => b + j) ++ (List.range 4).map (fun j => c + j)
theorem mem_fp2 {b c n a : Nat} : (a ∈ fp2 b c n) ↔ ((b ≤ a ∧ a < b + (n + 3)) ∨ (c ≤ a ∧ a < c + 4)) := by
  unfold fp2
  rw [List.mem_append]
  exact or_congr mem_fp mem_fp
theorem Z2At.keep {h h' : Heap} {b c : Nat} {rs : List (Bool × Addr)} {k : Bool} {l i : Nat} {g0 g1 f0 f1 : Value} (Z : Z2At h b c rs k l i g0 g1 f0 f1) (kk : ∀ a ∈ fp2 b c rs.length, ∀ o, h.get? a = some o → h'.get? a = some o) : Z2At h' b c rs k l i g0 g1 f0 f1 := by
  obtain ⟨kept, e1, e2⟩ := Z.to
  exact ⟨Z.le, Z.inn.keep fun a ha => kk a (mem_fp2.mpr (.inl (mem_fp.mp ha))), Z.it.at fun o ho => kk _ (mem_fp2.mpr (by omega)) o ho, kk _ (mem_fp2.mpr (by omega)) _ Z.ti, ⟨kept, e1, kk _ (mem_fp2.mpr (by omega)) _ e2⟩, kk _ (mem_fp2.mpr (by omega)) _ Z.z⟩
theorem Z2At.there {h : Heap} {b c : Nat} {rs : List (Bool × Addr)} {k : Bool} {l i : Nat} {g0 g1 f0 f1 : Value} (Z : Z2At h b c rs k l i g0 g1 f0 f1) (a : Nat) (ha : a ∈ fp2 b c rs.length) : ∃ o, h.get? a = some o ∧ ∀ v, o.data ≠ .cell v := by
  rcases mem_fp2.mp ha with h1 | h1
  · exact Z.inn.there a h1
  · obtain ⟨kept, e1, e2⟩ := Z.to
    by_cases a0 : a = c
    · subst a0; exact Z.it.obj
    · by_cases a1 : a = c + 1
      · subst a1; exact ⟨_, Z.ti, fun v q => nomatch q⟩
      · by_cases a2 : a = c + 2
        · subst a2; exact ⟨_, e2, fun v q => nomatch q⟩
        · have a3 : a = c + 3 := by omega
          subst a3; exact ⟨_, Z.z, fun v q => nomatch q⟩
def IteZ2 (K : Frag) (rs : List (Bool × Addr)) (k : Bool) (l : Nat) : It :=
  ⟨fun i H => (∃ xs, Zrow K H rs i xs) ∧ ∃ ys x, SqK K H k l ys ∧ ys[i]? = some x,
   fun i H v H' => ∃ T T2 xs x, v = .ref T2 ∧ H T = none ∧ upd H T (.tup xs) T2 = none ∧ H' = upd (upd H T (.tup xs)) T2 (.tup [.ref T, x]) ∧ xs.length = rs.length ∧
     (∀ (j : Nat) (k : Bool) (l : Nat) ys, rs[j]? = some (k, l) → SqK K H k l ys → ∃ x, ys[i]? = some x ∧ xs[j]? = some x) ∧ ∀ ys, SqK K H k l ys → ys[i]? = some x,
   fun i H => ∃ k l ys, rs[0]? = some (k, l) ∧ SqK K H k l ys ∧ ys.length = i⟩
def Z2Tn (b c : Nat) (rs : List (Bool × Addr)) (k : Bool) (l i : Nat) (h : Heap) : Prop :=
  ∃ g0 g1 f0 f1, Z2At h b c rs k l i g0 g1 f0 f1 ∧ F0 g0 ∧ (∃ q, g1 = .bool q) ∧ F0 f0 ∧ (∃ q, f1 = .bool q) ∧ 0 < rs.length ∧ rs.length ≤ sizeLine ∧ (∀ (j : Nat) (k : Bool) (l : Nat), rs[j]? = some (k, l) → l < b) ∧ l < c ∧ (l < b ∨ b + rs.length + 3 ≤ l)
def iZipZ (K : Frag) (te te2 : TE) : TI := fun σ H R => te σ H fun v H1 => ∃ a rs, v = .ref a ∧ (SqT K H1 a (rs.map fun r => V.ref r.2) ∨ SqL K H1 a (rs.map fun r => V.ref r.2)) ∧ 0 < rs.length ∧ (∀ (j : Nat) (k : Bool) (l : Nat), rs[j]? = some (k, l) → ∃ ys, SqK K H1 k l ys) ∧
  te2 σ H1 fun v2 H2 => ∃ k l ys, v2 = .ref l ∧ SqK K H2 k l ys ∧ R (IteZ2 K rs k l) H2
section
variable {X : CD} {e e2 : Expr} {ρ : Rn} {m : Led} {R : List D → Led → Prop} {p p1 p2 pos pos1 : Pos} {tg : Expr}
end
/-! ### mirrors -/
def zipC (cs : List D) (d2 : D) : M (List D) := fun m R _ => ∃ bs, Seq d2 bs ∧ bs.length = cs.length ∧ R (zipD cs bs) m
section
variable {X : CD} {a b tg : Expr} {ρ : Rn} {p p1 p2 pos pos1 tpos : Pos} {mg : Str → Option Value} {ca cb : M D}
end
end DL


namespace DL
open PySem PySem.Spec PySem.Calls PyProof.Rows L2 RZ
/-! ### min of a tuple of ints -/
section
variable {prog : Program} {w : World} {A : Around} {E : Value → Shared → Prop} {s : Shared} {l : Addr}
end
section
variable {X : Cx}
def rMinT (K : PySem.W.Frag) : List V → Hp → VK → Prop := fun vs H Q => ∃ (a : Addr) (ns : List Int), vs = [V.ref a] ∧ SqT K H a (ns.map V.int) ∧ 0 < ns.length ∧ ∀ m, m ∈ ns → (∀ y, y ∈ ns → m ≤ y) → Q (.int m) H
end
section
variable {X : CD} {d : D} {m : Led} {R : D → Led → Prop}
/-- min of two ints, of a list of ints, of a tuple of ints -/
def minG (ds : List D) : M D := fun m R E => match ds with
  | [.tup xs] => ∃ ns : List Int, xs = ns.map D.int ∧ 0 < ns.length ∧ ∀ i, i ∈ ns → (∀ y ∈ ns, i ≤ y) → R (.int i) m
  | ds => minM ds m R E
end
end DL


namespace DL
open PySem PySem.Spec PySem.Calls PyProof.Rows L2 RZ
/-! ### starred and nested assign targets -/
section
variable {prog : Program} {w : World} {A : Around} {E : Value → Shared → Prop} {s : Shared}
end
def gStarL (K : PySem.W.Frag) (n i : Nat) (t : TGs) : TG := fun v σ H Q => ∃ a xs, v = .ref a ∧ SqL K H a xs ∧ n ≤ xs.length + 1 ∧ ∀ p, H p = none → t (xs.take i ++ [.ref p] ++ (xs.drop i).drop (xs.length + 1 - n)) σ (upd H p (.lst ((xs.drop i).take (xs.length + 1 - n)))) Q
section
variable {X : Cx} {pos sp : Pos}
end
section
variable {X : CD} {ρ : Rn} {m : Led} {pos sp : Pos}
end
/-! ### mirrors -/
def us3_0 {α : Type} (d : D) (k : D → D → D → M α) : M α := fun m R E => ∃ ds b c, d = .lst (ds ++ [b, c]) ∧ k (.lst ds) b c m R E
def us3_2 {α : Type} (d : D) (k : D → D → D → M α) : M α := fun m R E => ∃ a b ds, d = .lst (a :: b :: ds) ∧ k a b (.lst ds) m R E
def un14 {α : Type} (d : D) (k : D → D → D → D → D → M α) : M α := fun m R E => ∃ a1 a2 a3 a4 a5, d = .tup [a1, .tup [a2, a3, a4, a5]] ∧ k a1 a2 a3 a4 a5 m R E
section
variable {X : CD} {body : List Stmt} {ρ : Rn} {σ τ : Type} {en : σ → Option Rn} {el : τ → Rn} {p0 p1 q1 q2 q3 q4 q5 : Pos} {x1 x2 x3 x4 x5 : Str} {i1 i2 i3 i4 i5 n0 n1 : Nat} {d : D} {ρ1 : D → Rn} {ρ2 : D → D → Rn} {ρ3 : D → D → D → Rn} {ρ4 : D → D → D → D → Rn} {ρ5 : D → D → D → D → D → Rn}
end
end DL


namespace DL
open PySem PySem.Spec PySem.Calls PyProof.Rows L2 RZ

/-! ### d.items(), d.values(), walked -/
def Itxp (d : Addr) (o : Obj) (xs : List (List Int × Addr × Value)) (vs : List V) : It :=
  ⟨fun i H => H d = some (objO d o) ∧ i < xs.length, fun i H x H' => ∃ T y v, xs[i]? = some y ∧ vs[i]? = some v ∧ x = .ref T ∧ H T = none ∧ H' = upd H T (.tup [.ref y.2.1, v]), fun i H => H d = some (objO d o) ∧ xs.length ≤ i⟩
def Itxv (d : Addr) (o : Obj) (xs : List (List Int × Addr × Value)) (vs : List V) : It :=
  ⟨fun i H => H d = some (objO d o) ∧ i < xs.length, fun i H x H' => H' = H ∧ vs[i]? = some x, fun i H => H d = some (objO d o) ∧ xs.length ≤ i⟩
section
variable {P : Program} {w : World} {K : PySem.W.Frag} {tg : Expr} {d : Addr} {o : Obj} {ep : Nat} {xs : List (List Int × Addr × Value)} {vs : List V}
end
def iItemsX (td : TE) : TI := fun σ H R => td σ H fun x H1 => ∃ d o xs vs, x = .ref d ∧ H1 d = some (objO d o) ∧ DictObj d o xs ∧ Vals vs (xs.map (·.2.2)) ∧ R (Itxp d o xs vs) H1
def iValsX (td : TE) : TI := fun σ H R => td σ H fun x H1 => ∃ d o xs vs, x = .ref d ∧ H1 d = some (objO d o) ∧ DictObj d o xs ∧ Vals vs (xs.map (·.2.2)) ∧ R (Itxv d o xs vs) H1
section
variable {X : Cx} {tg e : Expr} {td : TE} {apos cpos : Pos}
end
/-- the pairs of a dict -/
def itemsD (ks : List (List Int)) (ds : List D) : List D := zipD (ks.map keyD) ds
section
variable {X : CD} {tg a : Expr} {ρ : Rn} {m : Led} {R : List D → Led → Prop} {apos cpos tpos : Pos}
def itemsM (d : D) : M (List D) := fun m R _ => ∃ ks ds, d = .dI ks ds ∧ R (itemsD ks ds) m
def valuesM (d : D) : M (List D) := fun m R _ => ∃ ks ds, d = .dI ks ds ∧ R ds m
end
end DL


namespace DL
open PySem PySem.Spec PySem.Calls PyProof.Rows L2 RZ

/-! ### list(d.values()) -/
def tListVals (te : TE) : TE := fun σ H Q => te σ H fun x H1 => ∃ d o xs vs, x = .ref d ∧ H1 d = some (objO d o) ∧ DictObj d o xs ∧ Vals vs (xs.map (·.2.2)) ∧ ∀ S, H1 S = none → Q (.ref S) (upd H1 S (.lst vs))
section
variable {X : Cx} {e : Expr} {te : TE} {apos cpos p pos : Pos}
end
section
variable {X : CD} {a : Expr} {ρ : Rn} {m : Led} {R : D → Led → Prop} {apos cpos p pos : Pos} {b : Bool}
def listV (b : Bool) (d : D) : M D := fun m R _ => ∃ ks ds, d = .dI ks ds ∧ RNewL R m ds b
end
end DL


namespace DL
open PySem PySem.Spec PySem.Calls PyProof.Rows L2 RZ

/-! ### == of equal data with dicts in it; == {} -/
def ShN : Nat → D → Prop
  | 0, d => NB 20 d
  | n + 1, d => NB 20 d ∨ (∃ ds, d = .tup ds ∧ ∀ x ∈ ds, ShN n x) ∨ (∃ ks vs, d = .dI ks vs ∧ ks.Nodup ∧ ∀ x ∈ vs, ShN n x)
section
variable {X : CD} {pins : List (Addr × Obj)} {σ : L2.St} {F H : Hp} {s : Shared} {m : Led}
end
section
variable {X : CD} {m : Led} {R : D → Led → Prop} {d1 d2 : D} {ks : List (List Int)} {vs : List D} {n : Nat}
def eqNB (ne : Bool) (a b : D) : M Bool := fun m R E => (∃ ks vs, Thw m a (.dI ks vs) ∧ Thw m b (.dI ks vs) ∧ ks.Nodup ∧ (∀ x ∈ vs, ShN 6 x) ∧ R (!ne) m) ∨
  (∃ ks vs, Thw m a (.dI ks vs) ∧ Thw m b (.dI [] []) ∧ R (if ne then !ks.isEmpty else ks.isEmpty) m) ∨ cmpB (if ne then .NotEq else .Eq) a b m R E
end
section
variable {X : CD} {a b : Expr} {ρ : Rn} {ca cb : M D} {pos : Pos}
def eqNM (ne : Bool) (a b : D) : M D := fun m R E => eqNB ne a b m (fun k m' => R (.bl k) m') E
end
end DL


namespace DL
open PySem PySem.Spec PySem.Calls PyProof.Rows L2 RZ

/-! ### x = [elt for y in a dict of the ledger]: the dict frozen for the while -/
section
variable {X : CD} {elt it : Expr} {ifs : List Expr} {scope : Scope} {ρ ρ' : Rn} {m : Led} {pos py px spos : Pos} {y x x0 : Str} {j i i0 n : Nat} {E : EndsD} {p : Addr} {ks : List (List Int)} {ds : List D}
variable {rest : List Stmt} {σ τ : Type} {en : σ → Option Rn} {el : τ → Rn} {ρu ρd : D → Rn} {kd : D → M (Fl σ τ)} {ci : D → M (List D)} {f : D → D → M (Option D)} {d0 : D}
end
end DL


namespace DL
open PySem PySem.Spec PySem.Calls PyProof.Rows L2 RZ

/-! ### == and != of equal data with lists, tuples and dicts in one another, all read as frozen -/
def ShG : Nat → D → Prop
  | 0, d => NB 20 d
  | n + 1, d => NB 20 d ∨ (∃ ds, d = .tup ds ∧ ∀ x ∈ ds, ShG n x) ∨ (∃ ds, d = .lst ds ∧ ∀ x ∈ ds, ShG n x) ∨ (∃ ks vs, d = .dI ks vs ∧ ks.Nodup ∧ ∀ x ∈ vs, ShG n x)
theorem ShG.tup {n : Nat} {ds : List D} (h : ∀ x ∈ ds, ShG n x) : ShG (n + 1) (.tup ds) := .inr (.inl ⟨_, rfl, h⟩)
theorem ShG.lst {n : Nat} {ds : List D} (h : ∀ x ∈ ds, ShG n x) : ShG (n + 1) (.lst ds) := .inr (.inr (.inl ⟨_, rfl, h⟩))
theorem ShG.dI {n : Nat} {ks : List (List Int)} {vs : List D} (nd : ks.Nodup) (h : ∀ x ∈ vs, ShG n x) : ShG (n + 1) (.dI ks vs) := .inr (.inr (.inr ⟨_, _, rfl, nd, h⟩))
section
variable {X : CD} {pins : List (Addr × Obj)} {σ : L2.St} {F H : Hp} {s : Shared} {m : Led}
/-- the two answers, with room for n steps -/
def BothG (A : Around) (s : Shared) (u v : Value) : Prop := ∀ (prog : Program) (w : World) (E : Value → Shared → Prop) (Q : Value → Shared → Prop), (Q (.bool true) s → wpAny (model prog w) A (compareOp .Eq u v) Q E s) ∧ (Q (.bool false) s → wpAny (model prog w) A (compareOp .NotEq u v) Q E s)
end
section
variable {X : CD} {m : Led} {R : D → Led → Prop} {d1 d2 d : D} {n : Nat}
def eqGB (ne : Bool) (a b : D) : M Bool := fun m R E => (∃ d, Thw m a d ∧ Thw m b d ∧ ShG 9 d ∧ R (!ne) m) ∨
  (∃ ks vs, Thw m a (.dI ks vs) ∧ Thw m b (.dI [] []) ∧ R (if ne then !ks.isEmpty else ks.isEmpty) m) ∨ cmpB (if ne then .NotEq else .Eq) a b m R E
end
section
variable {X : CD} {a b : Expr} {ρ : Rn} {ca cb : M D} {pos : Pos}
def eqGM (ne : Bool) (a b : D) : M D := fun m R E => eqGB ne a b m (fun k m' => R (.bl k) m') E
end
end DL


namespace DL
open PySem PySem.Spec PySem.Calls PyProof.Rows L2 RZ

/-! ### or, and as values, by truth -/
section
variable {X : CD} {a b : Expr} {ρ : Rn} {m : Led} {R : D → Led → Prop} {rest : List Expr} {pos : Pos} {ca cb : M D}
def orT (c : M D) (d : D) : M D := fun m R E => ∃ k, TruD m d k ∧ iteM k (ret d) c m R E
def andT (c : M D) (d : D) : M D := fun m R E => ∃ k, TruD m d k ∧ iteM k c (ret d) m R E
end
end DL


namespace DL
open PySem PySem.Spec PySem.Calls PyProof.Rows L2 RZ

/-! ### x in o (own class), as a value -/
def inOM (cn : Str) (sp : SpX) (neg : Bool) (x y : D) : M D := bnd (inOB cn sp neg x y) blM
section
variable {X : CD} {a b it tg : Expr} {ρ : Rn} {pos : Pos} {c ca cb : M D} {cn fld : Str} {k n : Nat} {sp : SpX} {mg : Str → Option Value} {P : Program} {w : World} {K : Frag} {base : Heap}
end
end DL


namespace DL
open PySem PySem.Spec PySem.Calls PyProof.Rows L2 RZ

/-! ### xs.pop() -/
theorem Dens.dropLast {K : Frag} {F : Hp} : ∀ {vs : List V} {ds : List D}, Dens K F vs ds → Dens K F vs.dropLast ds.dropLast
  | _, _, .nil => .nil
  | _, _, .cons _ .nil => .nil
  | _, _, .cons q (.cons q2 t) => .cons q (Dens.dropLast (.cons q2 t))
section
variable {X : CD} {m : Led} {R : D → Led → Prop} {E : XR} {d y v : D} {ds : List D} {a : Addr} {n : Nat}
def pop0M (d : D) : M D := fun m R _ => match d with
  | .ref a => ∃ (n : Nat) (ds : List D) (v : D), m[n]? = some (a, .lst ds) ∧ ds[ds.length - 1]? = some v ∧ R v (m.set n (a, .lst ds.dropLast))
  | _ => False
end
section
variable {X : CD} {o : Expr} {ρ : Rn} {co : M D} {apos cpos : Pos}
end
/-! ### list(d.values()), d perhaps of the ledger -/
section
variable {X : CD} {a : Expr} {ρ : Rn} {m : Led} {R : D → Led → Prop} {apos cpos p pos : Pos} {b : Bool}
def listVW (b : Bool) (d : D) : M D := fun m R _ => ∃ ks ds, DicV m d ks ds ∧ RNewL R m ds b
end
end DL


namespace DL
open PySem PySem.Spec PySem.Calls PyProof.Rows L2 RZ

/-! ### a list of lists of the ledger that is not changed any more: the rows are frozen, and the list -/
inductive FrzR : Led → List (Addr × D) → Led → Prop
  | nil (m : Led) : FrzR m [] m
  | cons {m m' : Led} {i : Nat} {a : Addr} {ds : List D} {T : List (Addr × D)} : m[i]? = some (a, .lst ds) → FrzR (m.eraseIdx i) T m' → FrzR m ((a, .lst ds) :: T) m'
inductive TDs (T : List (Addr × D)) : List D → List D → Prop
  | nil : TDs T [] []
  | keep {d : D} {ds es : List D} : TDs T ds es → TDs T (d :: ds) (d :: es)
  | sub {a : Addr} {d : D} {ds es : List D} : (a, d) ∈ T → TDs T ds es → TDs T (.ref a :: ds) (d :: es)
section
variable {K : Frag} {F H : Hp} {m m1 : Led} {T : List (Addr × D)}
theorem FrzR.step (h : FrzR m T m1) : ∀ {F : Hp}, At K F m H → ∃ F2, Step K F m H F2 m1 H ∧ ∀ q ∈ T, Den K F2 (.ref q.1) q.2 := by
  induction h with
  | nil m => exact fun {F} a => ⟨F, Step.refl a, fun q hq => (List.not_mem_nil hq).elim⟩
  | cons hm _ ih =>
    intro F a
    obtain ⟨F2, s2, q2⟩ := Step.freeze a hm
    obtain ⟨F3, s3, q3⟩ := ih s2.at2
    refine ⟨F3, s2.trans s3, fun q hq => ?_⟩
    rcases List.mem_cons.mp hq with rfl | hq
    · exact q2.mono s3.ex
    · exact q3 q hq
end
def frzdM (d : D) : M D := fun m R _ => match d with
  | .ref p => ∃ (T : List (Addr × D)) (m1 : Led) (n : Nat) (ds es : List D), FrzR m T m1 ∧ m1[n]? = some (p, .lst ds) ∧ TDs T ds es ∧ R (.lst es) (m1.eraseIdx n)
  | _ => False
section
variable {X : CD} {ρ : Rn} {x : Str} {i : Nat} {rest : List Stmt} {σ τ : Type} {en : σ → Option Rn} {el : τ → Rn} {kd : D → M (Fl σ τ)} {ρd : D → Rn} {d : D}
end
end DL


namespace DL
open PySem PySem.Spec PySem.Calls PyProof.Rows L2 RZ

/-! ### a tuple with lists of the ledger that are not changed any more: the lists are frozen -/
def frztM (d : D) : M D := fun m R _ => match d with
  | .tup ds => ∃ (T : List (Addr × D)) (m1 : Led) (es : List D), FrzR m T m1 ∧ TDs T ds es ∧ R (.tup es) m1
  | _ => False
section
variable {X : CD} {ρ ρ' : Rn} {x : Str} {i : Nat} {rest : List Stmt} {σ τ : Type} {en : σ → Option Rn} {el : τ → Rn} {kd : D → M (Fl σ τ)} {ρd : D → Rn} {d : D}
end
theorem TDs.refl (T : List (Addr × D)) : ∀ ds : List D, TDs T ds ds
  | [] => .nil
  | _ :: ds => .keep (TDs.refl T ds)
section
variable {P : Program} {w : World} {K : Frag} {mg : Str → Option Value} {base : Heap}
end
end DL


namespace DL
open PySem PySem.Spec PySem.Calls PyProof.Rows L2 RZ

/-! ### [elt for y, z in a list of the ledger if c] -/
section
variable {X : CD} {elt it : Expr} {scope : Scope} {ρ : Rn} {m : Led} {R : D → Led → Prop} {pos p0 p1 p2 : Pos} {y z : Str} {j k n0 : Nat}
def CompILP (X : CD) (scope : Scope) (ifs : List Expr) (elt : Expr) (y : Str) (j : Nat) (z : Str) (k : Nat) (ρ : Rn) (R : List D → Led → Prop) (a : Addr) (ds0 ds : List D) (m1 : Led) : Prop := ∃ I : Nat → List D → Led → Prop, I 0 [] m1 ∧ (∀ i acc m', I i acc m' → Hold a ds0 m') ∧
  (∀ i d acc m', ds[i]? = some d → I i acc m' → ∃ d1 d2 ρ1 ρ2, d = .tup [d1, d2] ∧ SetAt ρ j y d1 ρ1 ∧ SetAt ρ1 k z d2 ρ2 ∧ ∀ (s : Shared) (H0 : Hp) (C : Addr) (cl : List (Str × Addr)) (fp : List Addr),
    match ifs with
    | [] => EX (X.blk s H0 scope (compEnvC scope cl C X.env) fp) elt ρ2 m' fun z m3 => acc.length < 100000 ∧ I (i + 1) (acc ++ [z]) m3
    | [c] => TX (X.blk s H0 scope (compEnvC scope cl C X.env) fp) c ρ2 m' fun k m2 => (k = true → ∀ (s : Shared) (H0 : Hp) (C : Addr) (cl : List (Str × Addr)) (fp : List Addr), EX (X.blk s H0 scope (compEnvC scope cl C X.env) fp) elt ρ2 m2 fun z m3 => acc.length < 100000 ∧ I (i + 1) (acc ++ [z]) m3) ∧ (k = false → I (i + 1) acc m2)
    | _ => False) ∧ ∀ acc m', I ds.length acc m' → R acc m'
end
section
variable {X : CD} {elt it : Expr} {ifs : List Expr} {scope : Scope} {ρ : Rn} {pos p0 p1 p2 : Pos} {y z : Str} {j k n0 : Nat} {ca : M D} {f : D → M (Option D)} {g : List D → List D}
end
end DL


namespace DL
open PySem PySem.Spec PyProof.Rows L2
/-! ### o[i] op= e, where o is a ledger list -/
section
variable {X : CD} {o ix e : Expr} {ρ : Rn} {m : Led} {E : EndsD} {tpos pos : Pos} {op : Operator}
def augSM (op : Operator) (o i : D) (e : M D) : M Unit := fun m R E => ∃ (n : Nat) (a : Addr) (j : Nat) (ds : List D) (x : D), o = .ref a ∧ i = .int (j : Int) ∧ m[n]? = some (a, .lst ds) ∧ ds[j]? = some x ∧ bnd e (fun y => bnd (inplM op x y) fun z => stM o i z) m R E
end
/-! ### None, or a tuple whose lists are frozen -/
def frzoM (d : D) : M D := fun m R E => match d with
  | .non => R .non m
  | _ => frztM d m R E
end DL


namespace DL
open PySem PySem.Spec PySem.Calls PyProof.Rows L2 RZ

/-! ### list(d.items()): a dict as it lies (its keys may be tuples) -/
section
variable {prog : Program} {w : World} {A : Around} {E : Value → Shared → Prop} {s : Shared}
def RitSt (h : Heap) (it d S : Addr) (i n ep : Nat) : Prop :=
  (i = 0 ∧ ∃ ok ov, IsItemIter h it d 0 n ep ok ov) ∨ ∃ ok ov a f oa, PySem.W.KdxIt h it d i n ep ok ov a f ∧ h.get? a = some oa ∧ a ≠ it ∧ a ≠ S
theorem RitSt.keep {h h' : Heap} {it d S : Addr} {i n ep : Nat} (x : RitSt h it d S i n ep) (hk : ∀ b o, b ≠ S → h.get? b = some o → h'.get? b = some o) (hI : it ≠ S) : RitSt h' it d S i n ep := by
  rcases x with ⟨e, ok, ov, hit⟩ | ⟨ok, ov, a, f, oa, hit, ha, hai, haS⟩
  · exact .inl ⟨e, ok, ov, hk _ _ hI hit⟩
  · exact .inr ⟨ok, ov, a, f, oa, hk _ _ hI hit, hk _ _ haS ha, hai, haS⟩
structure RitG (es : Array DictEntry) (lo : Addr) (h : Heap) (as : List Addr) : Prop where
  rise : as.Pairwise (· < ·)
  above : ∀ a ∈ as, lo < a
  pairs : ∀ (j : Nat) (a : Addr), as[j]? = some a → ∃ hj : j < es.size, h.get? a = some { cls := .type "tuple", data := .seq #[es[j].key, es[j].val] }
theorem RitG.there {es : Array DictEntry} {lo : Addr} {h : Heap} {as : List Addr} (g : RitG es lo h as) {a : Addr} (ha : a ∈ as) : a < h.objs.size := by
  obtain ⟨j, hj⟩ := List.mem_iff_getElem?.mp ha
  obtain ⟨_, e⟩ := g.pairs j a hj
  exact Heap.lt_size e
end
section
variable {prog : Program} {w : World} {A : Around} {E : Value → Shared → Prop} {s : Shared} {R : Result → Shared → Prop} {es : Array DictEntry} {ep : Nat}
end
section
variable {prog : Program} {w : World} {A : Around} {E : Value → Shared → Prop} {s : Shared} {r d : Addr} {es : Array DictEntry} {ep : Nat}
end
/-! the tuples laid -/
def putQ : Hp → List Addr → List (V × V) → Hp
  | H, a :: as, p :: ps => putQ (upd H a (.tup [p.1, p.2])) as ps
  | H, _, _ => H
def tListIts (te : TE) : TE := fun σ H Q => te σ H fun x H1 => ∃ d o xs vs, x = .ref d ∧ H1 d = some (objO d o) ∧ DictObj d o xs ∧ Vals vs (xs.map (·.2.2)) ∧
  ∀ S as, H1 S = none → (∀ t ∈ as, H1 t = none) → as.Nodup → S ∉ as → as.length = xs.length → Q (.ref S) (upd (putQ H1 as ((xs.map fun y => V.ref y.2.1).zip vs)) S (.lst (as.map V.ref)))
section
variable {X : Cx} {e : Expr} {te : TE} {apos cpos p pos : Pos}
end
section
variable {X : CD} {a : Expr} {ρ : Rn} {m : Led} {R : D → Led → Prop} {apos cpos p pos : Pos} {b : Bool}
def listIW (b : Bool) (d : D) : M D := fun m R _ => ∃ ks ds, DicV m d ks ds ∧ RNewL R m ((ks.zip ds).map pairD) b
end
/-! ### a tuple told by an expression, whose ledger dict is frozen for good -/
def frztD (d : D) : M D := fun m R _ => match d with
  | .tup ds => ∃ (n : Nat) (p : Addr) (ks : List (List Int)) (vs es : List D), m[n]? = some (p, .dI ks vs) ∧ TDs [(p, .dI ks vs)] ds es ∧ R (.tup es) (m.eraseIdx n)
  | _ => False
section
variable {X : CD} {ρ : Rn} {e : Expr} {c : M D}
end
end DL


namespace DL
open PySem PySem.Spec PySem.Calls PyProof.Rows L2 RZ

/-! ### dict(pairs) where a key may stand twice: its last value holds -/
def putK (acc : List (List Int) × List D) (p : List Int × D) : List (List Int) × List D := if p.1 ∈ acc.1 then (acc.1, acc.2.set (acc.1.idxOf p.1) p.2) else (acc.1 ++ [p.1], acc.2 ++ [p.2])
def putAll (kvs : List (List Int × D)) : List (List Int) × List D := kvs.foldl putK ([], [])
section
variable {X : CD} {m : Led} {R : D → Led → Prop} {d : D} {b : Bool}
end
def dictU (b : Bool) (ds : List D) : M D := fun m R _ => match ds with
  | [d] => ∃ kvs : List (List Int × D), LstV m d (kvs.map pairD) ∧ kvs.length ≤ 100000 ∧ RNew R m (putAll kvs).1 (putAll kvs).2 b
  | _ => False
end DL


namespace DL
open PySem PySem.Spec PySem.Calls PyProof.Rows L2 RZ

/-! ### d.pop(k), d of the ledger, the key there -/
section
variable {X : CD} {m : Led} {R : D → Led → Prop} {a : Addr} {ks : List (List Int)} {ds : List D} {k : List Int} {x : D} {n i : Nat}
end
def popDM (d : D) (ys : List D) : M D := fun m R _ => ∃ (a : Addr) (k : List Int) (n : Nat) (ks : List (List Int)) (ds : List D) (i : Nat) (x : D), d = .ref a ∧ ys = [keyD k] ∧ m[n]? = some (a, .dI ks ds) ∧ ks[i]? = some k ∧ ds[i]? = some x ∧ R x (m.set n (a, .dI (ks.eraseIdx i) (ds.eraseIdx i)))
section
variable {X : CD} {o e : Expr} {ρ : Rn} {co : M D} {cs : M (List D)} {apos cpos : Pos}
end
end DL


namespace DL
open PySem PySem.Spec PySem.Calls PyProof.Rows L2 RZ

/-! ### sorted(d): the keys any tuples of ints, the empty one among them at any place -/
section
open TS
variable {prog : Program} {w : World} {A : Around} {E : Value → Shared → Prop} {s : Shared}
end
section
variable {X : CD} {m : Led} {R : D → Led → Prop} {d : D} {ks : List (List Int)} {ds : List D} {b : Bool}
def sortA (b : Bool) (zs : List D) : M D := fun m R E => match zs with
  | [d] => ∃ (ks : List (List Int)) (ds : List D), DicV m d ks ds ∧ ∀ ks' : List (List Int), ks'.Perm ks → ks'.Pairwise (fun a c => lexI c a = false) → RNewL R m (ks'.map keyD) b
  | _ => False
end
end DL


namespace DL
open PySem PySem.Spec PySem.Calls PyProof.Rows L2 RZ

/-! ### dicts with bare int keys: {k: v for a, b in it}, d[k], k in d, d.get(k, x) -/
def inK (ks : List Int) : List Key := ks.map Sum.inl
section
variable {X : CD} {m : Led} {R : D → Led → Prop} {x y : D} {ks : List Int} {ds : List D} {key : Int} {i : Nat}
end
/-! the comprehension -/
def PutDK (ks : List Int) (vs : List D) (k v : D) (P : List Int → List D → Prop) : Prop := ∃ i, k = .int i ∧ ks.length < 100000 ∧ i ∉ ks ∧ P (ks ++ [i]) (vs ++ [v])
def CompDK (X : CD) (scope : Scope) (kx vx : Expr) (y : Str) (j : Nat) (z : Str) (k : Nat) (ρ : Rn) (R : List Int → List D → Led → Prop) (ds : List D) (m1 : Led) : Prop := ∃ I : Nat → List Int → List D → Led → Prop, I 0 [] [] m1 ∧
  (∀ i d ks vs m', ds[i]? = some d → I i ks vs m' → ∃ d1 d2 ρ1 ρ2, d = .tup [d1, d2] ∧ SetAt ρ j y d1 ρ1 ∧ SetAt ρ1 k z d2 ρ2 ∧ ∀ (s : Shared) (H0 : Hp) (C : Addr) (cl : List (Str × Addr)) (fp : List Addr),
    EX (X.blk s H0 scope (compEnvC scope cl C X.env) fp) kx ρ2 m' fun kd m2 => ∀ (s : Shared) (H0 : Hp) (C : Addr) (cl : List (Str × Addr)) (fp : List Addr), EX (X.blk s H0 scope (compEnvC scope cl C X.env) fp) vx ρ2 m2 fun v m3 => PutDK ks vs kd v fun ks vs => I (i + 1) ks vs m3) ∧ ∀ ks vs m', I ds.length ks vs m' → R ks vs m'
section
variable {X : CD} {kx vx it t : Expr} {scope : Scope} {ρ : Rn} {m : Led} {R : D → Led → Prop} {pos p0 p1 p2 : Pos} {y z : Str} {j k n0 : Nat} {f : D → M (Option (D × D))} {ci : M (List D)}
def dcKM (f : D → M (Option (D × D))) : List D → List Int → List D → M (List Int × List D)
  | [], ks, vs => ret (ks, vs)
  | d :: ds, ks, vs => fun m R E => f d m (fun o m' => match o with
    | some (k, v) => PutDK ks vs k v fun ks vs => dcKM f ds ks vs m' R E
    | none => False) NoX
def dicKF (q : List Int × List D) : M D := fun m R _ => R (.dK (inK q.1) q.2) m
/-! mirrors -/
def ixKM (x y : D) : M D := fun m R _ => ∃ (ks : List Int) (ds : List D) (key : Int) (i : Nat) (v : D), x = .dK (inK ks) ds ∧ y = .int key ∧ ks.Nodup ∧ ks[i]? = some key ∧ ds[i]? = some v ∧ R v m
def inKB (neg : Bool) (x y : D) : M Bool := fun m R _ => ∃ (ks : List Int) (ds : List D) (key : Int), y = .dK (inK ks) ds ∧ x = .int key ∧ ks.Nodup ∧ R (if neg then !decide (key ∈ ks) else decide (key ∈ ks)) m
def chkK (d : D) : M Unit := fun m R _ => (∃ ks ds, d = .dK (inK ks) ds) ∧ R () m
def getKM (d : D) (ys : List D) : M D := fun m R _ => ∃ key y ks ds, ys = [.int key, y] ∧ d = .dK (inK ks) ds ∧ ks.Nodup ∧ ((∃ (i : Nat) (x : D), ks[i]? = some key ∧ ds[i]? = some x ∧ R x m) ∨ (key ∉ ks ∧ R y m))
end
section
variable {X : CD} {a b o e e2 : Expr} {ρ : Rn} {ca cb co : M D} {cs : M (List D)} {pos apos cpos : Pos}
end
end DL


namespace DL
open PySem PySem.Spec PySem.Calls PyProof.Rows L2 RZ

/-! ### dict(zip(xs, ys)): a list of tuples of ints and a list -/
def keysD (ks : List (List Int)) : List D := ks.map keyD
def dzM (bb : Bool) (ds : List D) : M D := fun m R _ => match ds with
  | [d1, d2] => ∃ (ks : List (List Int)) (vs : List D), LstV m d1 (keysD ks) ∧ LstV m d2 vs ∧ ks.length = vs.length ∧ ks.Nodup ∧ ks.length ≤ 100000 ∧ RNew R m ks vs bb
  | _ => False
section
variable {X : CD} {a b : Expr} {ρ : Rn} {m : Led} {R : D → Led → Prop} {E : XR} {p p2 pos pos2 : Pos} {bb : Bool}
end
end DL


namespace DL
open PySem PySem.Spec PySem.Calls PyProof.Rows L2 RZ

/-! ### looking for a key in a dict with keys of several kinds -/
section
variable {prog : Program} {w : World} {A : Around} {E : Value → Shared → Prop} {s : Shared}
/-- the value is the key, not too deep -/
structure NK (h : Heap) (k : NestedKey) (v : Value) : Prop where
  is : NestedIs h k v
  dp : k.depth ≤ 8
/-- the keys of the entries, and the place that is found -/
structure Seek (h : Heap) (es : Array DictEntry) (Ks : List NestedKey) (k : NestedKey) (hk : Int) (res : Option Nat) : Prop where
  len : es.size = Ks.length
  is : ∀ (i : Nat) (e : DictEntry), es[i]? = some e → ∃ k', Ks[i]? = some k' ∧ NK h k' e.key
  one : ∀ i, Ks[i]? = some k → res = some i
  hit : ∀ i, res = some i → Ks[i]? = some k ∧ (es[i]?.map (·.hash)) = some hk
/-- the places of a hash -/
def plc (es : Array DictEntry) (hk : Int) : List Nat := placesWithHash es.size (fun i => es[i]?.map (·.hash)) hk
end
end DL


namespace DL
open PySem PySem.Spec PySem.Calls PyProof.Rows L2 RZ

/-! ### dicts with one odd key at the end -/
section
variable {prog : Program} {w : World} {A : Around} {E : Value → Shared → Prop} {s : Shared} {d : Addr} {es : Array DictEntry} {ep : Nat} {o : Obj}
end
end DL


namespace DL
open PySem PySem.Spec PySem.Calls PyProof.Rows L2 RZ

/-! ### data: dicts with one odd key -/
def nkI (k : List Int) : NestedKey := .tup (k.map .num)
def nkO : D → NestedKey
  | .str x => .text x
  | .int i => .num i
  | .tup [.bl b] => nkI [bitI b]
  | _ => .none
section
variable {X : Cx} {pins : List (Addr × Obj)} {σ : L2.St} {F H : Hp} {s : Shared} {m : Led} {b : Addr} {k : List Int} {kd : D} {kV : V} {kv : Value}
end
def entsO (xs : List (List Int × Addr × Value)) (h : Int) (kv val : Value) : List DictEntry := xs.map entI ++ [⟨h, kv, val⟩]
def KsI (xs : List (List Int × Addr × Value)) : List NestedKey := xs.map fun x => nkI x.1
section
variable {h : Heap} {xs : List (List Int × Addr × Value)} {x : List Int × Addr × Value} {i : Nat} {k : D} {hh : Int} {kv val : Value}
end
end DL


namespace DL
open PySem PySem.Spec PySem.Calls PyProof.Rows L2 RZ

/-! ### rules for dicts with one odd key at the end -/
section
variable {X : CD} {m : Led} {R : D → Led → Prop} {ks : List (List Int)} {ds : List D} {kd vd : D}
end
section
variable {X : CD}
def tOdd (X : CD) : TSet := fun o ix v H Q => ∃ (F : Hp) (m : Led) (a : Addr) (ob : Obj) (xs : List (List Int × Addr × Value)) (kd : D), o = .ref a ∧ At X.K F m H ∧ Den X.K F ix kd ∧ oddK kd ∧ H a = some (objO a ob) ∧ DictObj a ob xs ∧ (∀ x ∈ xs, SqT X.K H x.2.1 (x.1.map V.int)) ∧ xs.length < sizeLine ∧
  (((∀ b, kd = .tup [.bl b] → [bitI b] ∉ xs.map (·.1)) ∧ ∀ iv u ob' hh, RelV ix iv → RelV v u → OddObj a ob' xs hh iv u → OddOk (xs.map (·.1)) kd hh → Q (upd H a (objO a ob'))) ∨
   (∃ b j x, kd = .tup [.bl b] ∧ xs[j]? = some x ∧ x.1 = [bitI b] ∧ ∀ u ob', RelV v u → DictObj a ob' (xs.set j (x.1, x.2.1, u)) → Q (upd H a (objO a ob'))))
end
/-! the walk of its keys -/
def Ity (d : Addr) (o : Obj) (es : List DictEntry) (ks : List V) : It :=
  ⟨fun i H => H d = some (objO d o) ∧ i < es.length, fun i H x H' => H' = H ∧ ks[i]? = some x, fun i H => H d = some (objO d o) ∧ es.length ≤ i⟩
def iSeqO (X : CD) (it : Expr) : TI := fun σ H R => SE X it σ H fun x H1 => ∃ a, x = .ref a ∧ (((∃ xs, SqL X.K H1 a xs) ∧ R (Itl X.K a) H1) ∨ ((∃ xs, SqT X.K H1 a xs) ∧ R (Itt X.K a) H1) ∨ (∃ o xs, H1 a = some (objO a o) ∧ DictObj a o xs ∧ R (Itx a o xs) H1) ∨
  ∃ o es ep ks, H1 a = some (objO a o) ∧ o.ExactDict ∧ (a == sysModules) = false ∧ o.data = .dict es.toArray ep ∧ Vals ks (es.map (·.key)) ∧ R (Ity a o es ks) H1)
def SeqO (d : D) (ds : List D) : Prop := SeqD d ds ∨ ∃ ks vs k v, d = .dO ks vs k v ∧ ds = ks.map keyD ++ [k]
end DL


namespace DL
open PySem PySem.Spec PySem.Calls PyProof.Rows L2 RZ

/-! ### mirrors for dicts with one odd key -/
def lenA (ds : List D) : M D := fun m R E => (∃ ks vs k v, ds = [.dO ks vs k v] ∧ R (.int (ks.length + 1 : Nat)) m) ∨ lenM ds m R E
def isiA (cs : List Str) (ds : List D) : M D := fun m R E => (∃ ks vs k v n, ds = [.dO ks vs k v, .ty n] ∧ n ∈ ["int", "bool", "list", "tuple", "dict", "str"] ∧ R (.bl (n == "dict")) m) ∨ isiO cs ds m R E
def ixA (o i : D) : M D := fun m R E => (∃ (ks : List (List Int)) (ds : List D) (k v : D) (j : List Int) (n : Nat) (x : D), o = .dO ks ds k v ∧ i = .tup (j.map .int) ∧ ks[n]? = some j ∧ ds[n]? = some x ∧ R x m) ∨ (∃ ks ds b v, o = .dO ks ds (.tup [.bl b]) v ∧ i = .tup [.bl b] ∧ R v m) ∨ ixM o i m R E
def seqA (d : D) : M (List D) := fun m R E => (∃ ks vs k v, d = .dO ks vs k v ∧ R (ks.map keyD ++ [k]) m) ∨ seqM d m R E
def stA (o i v : D) : M Unit := fun m R E => (∃ a n ks ds, o = .ref a ∧ m[n]? = some (a, .dI ks ds) ∧ ks.length < 100000 ∧ oddK i ∧
  (((∀ b, i = .tup [.bl b] → [bitI b] ∉ ks) ∧ R () (m.set n (a, .dO ks ds i v))) ∨ (∃ b j, i = .tup [.bl b] ∧ ks[j]? = some [bitI b] ∧ R () (m.set n (a, .dI ks (ds.set j v)))))) ∨ stM o i v m R E
def frzU (d : D) : M D := fun m R E => (∃ p n ks ds k v, d = .ref p ∧ m[n]? = some (p, .dO ks ds k v) ∧ R (.dO ks ds k v) (m.eraseIdx n)) ∨ frzM d m R E
section
variable {X : CD}
end
section
variable {X : CD} {a b e t o ix it tg : Expr} {es : List Expr} {ρ : Rn} {pos p1 : Pos} {c ca cb ce co ci : M D}
end
section
variable {X : CD} {rest : List Stmt} {ρ : Rn} {σ τ : Type} {en : σ → Option Rn} {el : τ → Rn} {e : Expr} {pos p1 : Pos} {x : Str} {i : Nat} {d : D} {ρd : D → Rn} {kd : D → M (Fl σ τ)}
end
/-! rules -/
section
variable {m : Led} {RD : D → Led → Prop} {E : XR} {ks : List (List Int)} {vs ds : List D} {k v d : D}
end
end DL


namespace DL
open PySem PySem.Spec PySem.Calls PyProof.Rows L2 RZ

/-! ### d.pop(k, x) -/
section
variable {X : CD} {m : Led} {R : D → Led → Prop} {a : Addr} {ks : List (List Int)} {ds : List D} {k : List Int} {y : D} {n : Nat}
end
def popDM2 (d : D) (ys : List D) : M D := fun m R _ => ∃ (a : Addr) (k : List Int) (n : Nat) (ks : List (List Int)) (ds : List D) (y : D), d = .ref a ∧ ys = [keyD k, y] ∧ m[n]? = some (a, .dI ks ds) ∧ ((∃ (i : Nat) (x : D), ks[i]? = some k ∧ ds[i]? = some x ∧ R x (m.set n (a, .dI (ks.eraseIdx i) (ds.eraseIdx i)))) ∨ (k ∉ ks ∧ R y m))
section
variable {X : CD} {o e e2 : Expr} {ρ : Rn} {co : M D} {cs : M (List D)} {apos cpos : Pos}
end
/-! a test read with a ledger dict frozen -/
section
variable {X : CD} {e : Expr} {ρ ρ' : Rn} {m : Led} {R : Bool → Led → Prop} {x : Str} {i n : Nat} {p : Addr} {ks : List (List Int)} {ds : List D}
end
def thawT (d : D) (c : D → M Bool) : M Bool := fun m R E => match d with
  | .ref a => ∃ (n : Nat) (ks : List (List Int)) (ds : List D), m[n]? = some (a, .dI ks ds) ∧ c (.dI ks ds) (m.eraseIdx n) (fun r m2 => noDL m2 ∧ R r (m2 ++ [(a, .dI ks ds)])) NoX
  | d => c d m R NoX
section
variable {X : CD} {e : Expr} {ρ : Rn} {x : Str} {i : Nat} {d : D}
end
end DL


namespace DL
open PySem PySem.Spec PySem.Calls PyProof.Rows L2 RZ

/-! ### a dict with an odd key == {} -/
section
variable {prog : Program} {w : World} {A : Around} {E : Value → Shared → Prop} {s : Shared} {a b : Addr} {es es' : Array DictEntry} {ep ep' : Nat}
end
section
variable {X : CD} {m : Led} {R : D → Led → Prop} {ks : List (List Int)} {ds : List D} {kd vd d2 : D}
end
def eqOB (x y : D) : M Bool := fun m R E => (∃ ks vs k v, x = .dO ks vs k v ∧ DicV m y [] [] ∧ R false m) ∨ cmpB .Eq x y m R E
section
variable {X : CD} {a b : Expr} {ρ : Rn} {ca cb : M D} {pos : Pos}
end
end DL


namespace DL
open PySem PySem.Spec PySem.Calls PyProof.Rows L2 RZ

/-! ### texts -/
def chrD (c : Nat) : D := .str ⟨#[c]⟩
def sgnD (z : Str) : List D := z.cps.toList.map chrD
section
variable {X : CD} {m : Led} {R : D → Led → Prop} {x y z : Str} {i n : Int}
theorem o_addS (hz : x.length + y.length ≤ 100000) (k : R (.str (x ++ y)) m) : OX X (binaryOp .Add) (.str x) (.str y) m R := OX.of op_add_str fun F H a b q1 q2 at_ =>
  ⟨x, y, q1.str_inv, q2.str_inv, Nat.le_trans hz (by decide), PQ.now at_.toAt (.str _) k⟩
theorem o_inS {c : Nat} (k : R (.bl (decide (c ∈ z.cps.toList))) m) : OX X (compareOp .In) (chrD c) (.str z) m R := OX.of op_in_sign fun F H a b q1 q2 at_ =>
  ⟨c, z, q1.str_inv, q2.str_inv, PQ.now at_.toAt (.bl _) k⟩
theorem o_mulS (h1 : x.length ≤ 16) (h2 : n ≤ 1048576) (h3 : -1048576 ≤ n) (k : R (.str (Txt.mul x n)) m) : OX X (binaryOp .Mult) (.str x) (.int n) m R := .mk fun F σ H a b pins s v u q1 q2 at_ I rx ry => by
  obtain rfl := q1.str_inv
  obtain rfl := q2.int_inv
  obtain ⟨t, rfl⟩ := rx
  obtain ⟨t2, rfl⟩ := ry
  refine SB.mul (mulOk_of 16 1048576 (by omega) (by omega) (by omega) (by decide) (by decide)) fun t' kk => ?_
  exact ⟨.str _, H, I.tok _, ⟨_, rfl⟩, PQ.now at_.toAt (.str _) k⟩
theorem sl_strD {lo hi : Option Int} (hz : z.length ≤ 100000) (k : R (.str (cutS z lo hi)) m) : SlX X (.str z) lo hi m R := .mk ⟨_, sl_str, fun F H a q at_ =>
  ⟨z, q.str_inv, Nat.le_trans hz (by decide), PQ.now at_.toAt (.str _) k⟩⟩
theorem b_strI (hi : i.natAbs.log2 < 1920) (k : R (.str (toString i)) m) : BX X (.type "str") [.int i] m R := BX.of call_str_int fun F H xs qs at_ => by
  obtain ⟨v, rfl, q⟩ := qs.one
  obtain rfl := q.int_inv
  exact ⟨i, rfl, hi, PQ.now at_.toAt (.str _) k⟩
theorem b_intS (hz : z.length ≤ 640) (hn : PySem.intText? z = some n) (k : R (.int n) m) : BX X (.type "int") [.str z] m R := BX.of call_int_str fun F H xs qs at_ => by
  obtain ⟨v, rfl, q⟩ := qs.one
  obtain rfl := q.str_inv
  exact ⟨z, n, rfl, hn, hz, PQ.now at_.toAt (.int _) k⟩
theorem mt_bx {id : String} {r : V → List V → Hp → VK → Prop} {d : D} {ds : List D} (ho : MtR X id r) (h : ∀ F H x xs, Den X.K F x d → Dens X.K F xs ds → AtX X F m H → r x xs H (PQ X.K F m H R)) : BX X (.builtin id) (d :: ds) m R := .mk fun F σ H xs pins s us q at_ I rs => by
  cases q with
  | cons q qs =>
    cases rs with
    | cons r rs => exact ho pins s σ H _ _ _ _ _ I r rs (h F H _ _ q qs at_)
theorem b_split (hz : x.length ≤ 100000) (hy : (y.length == 0) = false) (k : R (.lst ((Txt.split x y).map .str)) m) : BX X (.builtin "str.split") [.str x, .str y] m R := mt_bx mt_split fun F H v vs q qs at_ => by
  obtain ⟨u, rfl, q2⟩ := qs.one
  refine ⟨x, y, q.str_inv, by rw [q2.str_inv], hy, by rw [sizeLine_eq]; omega, fun p hp => ?_⟩
  exact new_lst at_.toAt hp Dens.of_strs k
theorem kd_strX {d : D} (h : ∃ z, d = .str z) : KdX X m d "str" := fun F σ H x pins s v q at_ I r => by
  obtain ⟨z, rfl⟩ := h
  obtain rfl := q.str_inv
  obtain ⟨t, rfl⟩ := r
  exact ⟨typeIs_str _ _ _, fun a e => nomatch e⟩
theorem its_yd {K : Frag} {F1 : Hp} {i : Nat} {H2 H3 : Hp} {v : V} (h : H3 = H2 ∧ ∃ c, z.cps[i]? = some c ∧ v = .str ⟨#[c]⟩) : YD K F1 (sgnD z) i H2 v H3 := fun F2 m2 ex at_ => by
  obtain ⟨rfl, c, hc, rfl⟩ := h
  refine ⟨F2, chrD c, ?_, Step.refl at_, .str _⟩
  unfold sgnD
  rw [List.getElem?_map, Array.getElem?_toList, hc]
  rfl
theorem ix_str {tg it : Expr} {ρ : Rn} {R : List D → Led → Prop} (h : EX X it ρ m fun d m1 => ∃ z, d = .str z ∧ R (sgnD z) m1) : IX X tg it ρ m R := .mk fun F σ H en at_ =>
  SI.of (pi_str (pe_SE (e := it))) (h.go en at_ fun v d F1 m1 H1 s1 en1 q ⟨z, ed, r⟩ => by
    subst ed
    refine ⟨z, q.str_inv, sgnD z, F1, m1, s1, r, ?_⟩
    have el : (sgnD z).length = z.cps.size := by unfold sgnD; simp
    rw [el]
    exact ⟨fun i H' hi _ => hi, fun _ _ => Nat.le_refl _, fun i H' x H'' hi _ y => its_yd y⟩)
end
/-! mirrors -/
def binX (op : Operator) (a b : D) : M D := fun m R E => (∃ x y, op = .Add ∧ a = .str x ∧ b = .str y ∧ x.length + y.length ≤ 100000 ∧ R (.str (x ++ y)) m) ∨ (∃ x n, op = .Mult ∧ a = .str x ∧ b = .int n ∧ x.length ≤ 16 ∧ n ≤ 1048576 ∧ -1048576 ≤ n ∧ R (.str (Txt.mul x n)) m) ∨ binM op a b m R E
def slX (d : D) (lo hi : Option Int) : M D := fun m R E => (∃ z, d = .str z ∧ z.length ≤ 100000 ∧ R (.str (cutS z lo hi)) m) ∨ slM d lo hi m R E
def inX (neg : Bool) (a b : D) : M Bool := fun m R E => (∃ c z, a = chrD c ∧ b = .str z ∧ R (if neg then !decide (c ∈ z.cps.toList) else decide (c ∈ z.cps.toList)) m) ∨ inPB neg a b m R E
def strW (d : D) : M (List D) := fun m R _ => ∃ z, d = .str z ∧ R (sgnD z) m
def strX (ds : List D) : M D := fun m R E => ∃ i : Int, ds = [.int i] ∧ i.natAbs.log2 < 1920 ∧ R (.str (toString i)) m
def intX (ds : List D) : M D := fun m R E => (∃ z n, ds = [.str z] ∧ z.length ≤ 640 ∧ PySem.intText? z = some n ∧ R (.int n) m) ∨ intM ds m R E
def chkS (d : D) : M Unit := fun m R _ => (∃ z, d = .str z) ∧ R () m
def splX (d : D) (ys : List D) : M D := fun m R _ => ∃ x y, d = .str x ∧ ys = [.str y] ∧ x.length ≤ 100000 ∧ (y.length == 0) = false ∧ R (.lst ((Txt.split x y).map .str)) m
section
variable {X : CD} {a b e it tg o : Expr} {es : List Expr} {ρ : Rn} {pos p2 apos cpos : Pos} {c ca cb co : M D} {cs : M (List D)}
theorem ev_binX {op : Operator} (ha : Ev X a ρ ca) (hb : Ev X b ρ cb) : Ev X (.BinOp a op b pos) ρ (bnd ca fun x => bnd cb fun y => binX op x y) := ⟨fun m R E xa h =>
  x_bin ((ha.run m _ E xa h).mono fun d1 m1 h1 => (hb.run m1 _ E xa h1).mono fun d2 m2 h2 => by
    rcases h2 with ⟨x, y, rfl, rfl, rfl, h3, h4⟩ | ⟨x, n, rfl, rfl, rfl, h3, h4, h5, h6⟩ | h2
    · exact o_addS h3 h4
    · exact o_mulS h3 h4 h5 h6
    · exact binM_ok h2)⟩
theorem ev_sliceX {lo hi : Option Expr} {cl ch : M (Option Int)} (h : Ev X e ρ c) (hl : EvO X lo ρ cl) (hh : EvO X hi ρ ch) : Ev X (.Subscript e (.Slice lo hi none p2) pos) ρ (bnd c fun d => bnd cl fun l => bnd ch fun u => slX d l u) := ⟨fun m R E xa k =>
  x_slice ((h.run m _ E xa k).mono fun d m1 k => (hl.run m1 _ E xa k).mono fun l m2 k => (hh.run m2 _ E xa k).mono fun u m3 k => by
    rcases k with ⟨z, rfl, h1, h2⟩ | k
    · exact sl_strD h1 h2
    · exact slM_ok k)⟩
theorem iv_strW (h : Ev X it ρ c) : Iv X tg it ρ (bnd c strW) := ⟨fun m R E xa k => ix_str ((h.run m _ E xa k).mono fun d m1 h => h)⟩
theorem strX_ok (ds : List D) (m R E) (h : strX ds m R E) : BX X (.type "str") ds m R := by
  obtain ⟨i, rfl, h1, h2⟩ := h
  exact b_strI h1 h2
theorem intX_ok (ds : List D) (m R E) (h : intX ds m R E) : BX X (.type "int") ds m R := by
  rcases h with ⟨z, n, rfl, h1, h2, h3⟩ | h
  · exact b_intS h1 h2 h3
  · exact intM_ok _ _ _ _ h
theorem ev_split (ho : Ev X o ρ co) (ha : EvA X [e] ρ cs) (hbase : attributeBase o "split" X.env (eval o X.env) = eval o X.env := by rfl)
    (hfew : ((backTo cpos (starEach [e] X.env)).all (fun x => !x.1) && (backToKw cpos (keywordEach [] X.env)).all (fun x => x.1.isSome)
      && decide ([e].length + ([] : List Keyword).length + (if ([] : List Keyword).isEmpty then 0 else 1) < 30)) = true := by rfl)
    (hline : (apos.endLine == cpos.line) = true := by rfl) (hs : starEach [e] X.env = (false, eval e X.env) :: starEach [] X.env := by rfl) (hplain : (backTo cpos (starEach [] X.env)).any (·.1) = false := by rfl) :
    Ev X (.Call (.Attribute o "split" apos) [e] [] cpos) ρ (bnd co fun u => bnd (chkS u) fun _ => bnd cs (splX u)) :=
  ev_mt ho ha (fun d m R E ⟨hd, r⟩ => ⟨"str", "str.split", ⟨PySem.F.plainAttrs_str, PySem.F.slot_str_split, PySem.F.type_str_split⟩, kd_strX hd, fun ys m R E ⟨x, y, ed, hy, h1, h2, kk⟩ => by
    subst hy ed
    exact b_split h1 h2 kk, r⟩) hbase hfew hline hs hplain
end
/-! c in text, as a value -/
def inXM (a b : D) : M D := fun m R _ => ∃ c z, a = chrD c ∧ b = .str z ∧ R (.bl (decide (c ∈ z.cps.toList))) m
section
variable {X : CD} {a b : Expr} {ρ : Rn} {pos : Pos} {ca cb : M D}
theorem ev_inX (ha : Ev X a ρ ca) (hb : Ev X b ρ cb) (hm : behindInMarks .In b = false := by first | exact nobehind _ (by decide) (by decide) | rfl | with_unfolding_all rfl) : Ev X (.Compare a [.In] [b] pos) ρ (bnd ca fun x => bnd cb fun y => inXM x y) := ⟨fun m R E xa h =>
  x_cmp ((ha.run m _ E xa h).mono fun d1 m1 h1 => (hb.run m1 _ E xa h1).mono fun d2 m2 h2 => by
    obtain ⟨c, z, rfl, rfl, h3⟩ := h2
    exact o_inS h3) hm⟩
end
/-! f"{a}..{b}" -/
def fmtS : D → Option Str
  | .str y => some y
  | .int i => if i.natAbs.log2 < 1920 then some (toString i) else none
  | _ => none
def fmM (x : D) : M Str := fun m R _ => ∃ u, fmtS x = some u ∧ u.length ≤ 30000 ∧ R u m
theorem fmt_way {K : Frag} {F : Hp} {v : V} {d : D} {u : Str} {Q : VK} {H : Hp} (q : Den K F v d) (e : fmtS d = some u) (hu : u.length ≤ 30000) (h : Q (.str u) H) : (∃ y : Str, v = .str y ∧ y.length ≤ sizeLine ∧ Q (.str y) H) ∨ ∃ i : Int, v = .int i ∧ i.natAbs.log2 < 1920 ∧ Q (.str (toString i)) H := by
  cases q with
  | str y =>
    have e : y = u := Option.some.inj e
    subst e
    exact .inl ⟨_, rfl, Nat.le_trans hu (by decide), h⟩
  | int i =>
    unfold fmtS at e
    dsimp only at e
    split at e
    · rename_i hl
      have e := Option.some.inj e
      rw [← e] at h
      exact .inr ⟨i, rfl, hl, h⟩
    · cases e
  | _ => cases e
theorem emp_app (u : Str) : Str.empty ++ u = u := by
  apply TL.ext_tl
  rw [TL.tl_append]
  rfl
theorem lenApp (x y : Str) : (x ++ y).length = x.length + y.length := by
  rw [TL.len_tl, TL.tl_append, List.length_append, ← TL.len_tl, ← TL.len_tl]
section
variable {X : CD} {a b : Expr} {ρ : Rn} {pos p1 p2 p3 : Pos} {ca cb : M D} {s : Str} {j : Nat}
theorem ev_fs3 (ha : Ev X a ρ ca) (hb : Ev X b ρ cb) (hs : s.length ≤ 30000 := by decide) : Ev X (.JoinedStr [.FormattedValue a (-1) none p1, .Constant (.str s) j p2, .FormattedValue b (-1) none p3] pos) ρ (bnd ca fun x => bnd (fmM x) fun u => bnd cb fun y => bnd (fmM y) fun v => ret (.str (u ++ s ++ v))) := ⟨fun m R E xa h => .mk fun F σ H en at_ => by
  refine SE.of (pe_joined (.cons (pe_fmt (pe_SE (e := a))) (.cons pe_str (.cons (pe_fmt (pe_SE (e := b))) .nil)))) ?_
  refine (ha.run m _ E xa h).go en at_ fun v d F1 m1 H1 s1 en1 q1 r1 => ?_
  obtain ⟨u, e1, l1, r1⟩ := r1
  refine fmt_way (Q := fun x H1 => ∃ y : Str, x = .str y ∧ (Str.empty ++ y).length ≤ sizeLine ∧ tJs [tC (.str s), tFmt (SE X.toCx b)] (Str.empty ++ y) σ H1 (fun out H1 => PQ X.K F m H R (.str out) H1)) q1 e1 l1 ⟨u, rfl, ?_, s, rfl, ?_, ?_⟩
  · rw [emp_app, sizeLine_eq]; omega
  · rw [emp_app, lenApp, sizeLine_eq]; omega
  refine (hb.run m1 _ E xa r1).go en1 s1.at2 fun v2 d2 F2 m2 H2 s2 en2 q2 r2 => ?_
  obtain ⟨w, e2, l2, r2⟩ := r2
  refine fmt_way (Q := fun x H1 => ∃ y : Str, x = .str y ∧ (Str.empty ++ u ++ s ++ y).length ≤ sizeLine ∧ PQ X.K F m H R (.str (Str.empty ++ u ++ s ++ y)) H1) q2 e2 l2 ⟨w, rfl, ?_, ?_⟩
  · rw [emp_app, lenApp, lenApp, sizeLine_eq]; omega
  rw [emp_app]
  exact PQ.step (s1.trans s2.st) (PQ.now s2.at2.toAt (.str _) r2)⟩
end
end DL


namespace DL
open PySem PySem.Spec PyProof.Rows L2 RZ
/-- a ratio as data -/
abbrev Q := Int × Int
@[reducible] def rat (q : Q) : D := .tup [.int q.1, .int q.2]
def Bd (n : Nat) (i : Int) : Prop := i.natAbs < 2 ^ n
theorem Bd.up {a b : Nat} {i : Int} (h : Bd a i) (hl : a ≤ b) : Bd b i := Nat.lt_of_lt_of_le h (Nat.pow_le_pow_right (by decide) hl)
theorem Bd.lit (k : Nat) : Bd (k.log2 + 1) (OfNat.ofNat k : Int) := by
  unfold Bd
  exact Nat.lt_log2_self
theorem Bd.one : Bd 1 (1 : Int) := by unfold Bd; decide
theorem Bd.mul {a b : Nat} {i j : Int} (h1 : Bd a i) (h2 : Bd b j) (h : a + b ≤ 900000) : IntMulOk i j := by
  refine (CMulW.ok ?_)
  refine wide_mul (a := a + 1) (b := b + 1) ?_ ?_ (Nat.succ_pos _) (Nat.succ_pos _) (by omega)
  · exact Nat.lt_of_lt_of_le h1 (Nat.pow_le_pow_right (by decide) (Nat.le_succ _))
  · exact Nat.lt_of_lt_of_le h2 (Nat.pow_le_pow_right (by decide) (Nat.le_succ _))
theorem Bd.divG {a : Nat} {i j : Int} (h : Bd a j) (h0 : j ≠ 0) (ha : a ≤ 8000) : CDivG i j := by
  refine ⟨h0, ?_⟩
  have h1 : j.natAbs < 2 ^ (a + 1) := Nat.lt_of_lt_of_le h (Nat.pow_le_pow_right (by decide) (Nat.le_succ _))
  have := PySem.Flt.log2_lt_of (Nat.succ_pos _) h1
  omega
/-- a ratio whose parts are below 2 ^ n -/
def Rb (n : Nat) (q : Q) : Prop := Bd n q.1 ∧ Bd n q.2
/-- the greatest common divisor of a list -/
def gL (ns : List Int) : Nat := ns.foldl (fun g n => Nat.gcd n.natAbs g) 0
/-- lowest terms, the bottom above 0 -/
def Nf (q : Q) : Prop := 0 < q.2 ∧ Int.gcd q.1 q.2 = 1
def piece (u d : Int) : Int := if d < 0 then -(Int.gcd u d : Int) else (Int.gcd u d : Int)
def mkQ (u d : Int) : Q := (u.fdiv (piece u d), d.fdiv (piece u d))
theorem gL2 (u d : Int) : gL [u, d] = Int.gcd u d := by
  show Nat.gcd d.natAbs (Nat.gcd u.natAbs 0) = Int.gcd u d
  rw [Nat.gcd_zero_right, Nat.gcd_comm]
  rfl
theorem gcd_pos {u d : Int} (h : d ≠ 0) : 0 < Int.gcd u d := by
  rcases Nat.eq_zero_or_pos (Int.gcd u d) with e | e
  · exact absurd (Int.gcd_eq_zero_iff.mp e).2 h
  · exact e
theorem piece_ne {u d : Int} (h : d ≠ 0) : piece u d ≠ 0 := by
  have := gcd_pos (u := u) h
  unfold piece
  split <;> omega
theorem piece_bd {u d : Int} {n : Nat} (h : d ≠ 0) (hb : Bd n d) : Bd n (piece u d) := by
  have h1 : Int.gcd u d ∣ d.natAbs := Nat.gcd_dvd_right _ _
  have h2 := Nat.le_of_dvd (by omega) h1
  unfold Bd at hb ⊢
  have : (piece u d).natAbs = Int.gcd u d := by unfold piece; split <;> simp
  rw [this]
  omega
theorem mkQ_spec {u d : Int} (h : d ≠ 0) : ∃ p : Int, p = piece u d ∧ p ≠ 0 ∧ u = (mkQ u d).1 * p ∧ d = (mkQ u d).2 * p ∧ 0 < (mkQ u d).2 ∧ Int.gcd (mkQ u d).1 (mkQ u d).2 = 1 := by
  have hp := piece_ne (u := u) h
  have hg := gcd_pos (u := u) h
  have d1 : (Int.gcd u d : Int) ∣ u := Int.gcd_dvd_left ..
  have d2 : (Int.gcd u d : Int) ∣ d := Int.gcd_dvd_right ..
  have e1 : piece u d ∣ u := by unfold piece; split; exact Int.neg_dvd.mpr d1; exact d1
  have e2 : piece u d ∣ d := by unfold piece; split; exact Int.neg_dvd.mpr d2; exact d2
  have f1 : u = (mkQ u d).1 * piece u d := by
    show u = u.fdiv (piece u d) * piece u d
    rw [Int.fdiv_eq_ediv_of_dvd e1, Int.ediv_mul_cancel e1]
  have f2 : d = (mkQ u d).2 * piece u d := by
    show d = d.fdiv (piece u d) * piece u d
    rw [Int.fdiv_eq_ediv_of_dvd e2, Int.ediv_mul_cancel e2]
  refine ⟨_, rfl, hp, f1, f2, ?_, ?_⟩
  · rcases Int.lt_or_le 0 (mkQ u d).2 with q | q
    · exact q
    · exfalso
      by_cases hd : d < 0
      · have : piece u d < 0 := by unfold piece; rw [if_pos hd]; omega
        have := Int.mul_nonneg_of_nonpos_of_nonpos q (Int.le_of_lt this)
        omega
      · have : 0 < piece u d := by unfold piece; rw [if_neg hd]; omega
        have := Int.mul_nonpos_of_nonpos_of_nonneg q (Int.le_of_lt this)
        omega
  · have hn : (piece u d).natAbs = Int.gcd u d := by unfold piece; split <;> simp
    have k : Int.gcd u d = Int.gcd (mkQ u d).1 (mkQ u d).2 * (piece u d).natAbs := by
      have k0 : Int.gcd u d = Int.gcd ((mkQ u d).1 * piece u d) ((mkQ u d).2 * piece u d) := by rw [← f1, ← f2]
      rw [Int.gcd_mul_right] at k0
      exact k0
    rw [hn] at k
    have : 1 * Int.gcd u d = Int.gcd (mkQ u d).1 (mkQ u d).2 * Int.gcd u d := by rw [Nat.one_mul]; exact k
    exact (Nat.eq_of_mul_eq_mul_right hg this).symm
theorem mkQ_nf {u d : Int} (h : d ≠ 0) : Nf (mkQ u d) := by
  obtain ⟨p, _, _, _, _, h1, h2⟩ := mkQ_spec (u := u) h
  exact ⟨h1, h2⟩
theorem natAbs_le_mul {a p : Int} (hp : p ≠ 0) : a.natAbs ≤ (a * p).natAbs := by
  rw [Int.natAbs_mul]
  exact Nat.le_mul_of_pos_right _ (by omega)
theorem mkQ_bd {u d : Int} {n k : Nat} (h : d ≠ 0) (hu : Bd n u) (hd : Bd k d) : Bd n (mkQ u d).1 ∧ Bd k (mkQ u d).2 := by
  obtain ⟨p, _, hp, e1, e2, _, _⟩ := mkQ_spec (u := u) h
  constructor
  · have := natAbs_le_mul (a := (mkQ u d).1) hp
    rw [← e1] at this
    exact Nat.lt_of_le_of_lt this hu
  · have := natAbs_le_mul (a := (mkQ u d).2) hp
    rw [← e2] at this
    exact Nat.lt_of_le_of_lt this hd
def lowL (ns : List Int) : List Int := if gL ns = 0 then ns else ns.map fun n => n.fdiv (gL ns : Nat)
def plusQ (p q : Q) : Q := mkQ (p.1 * q.2 + q.1 * p.2) (p.2 * q.2)
def minusQ (p q : Q) : Q := mkQ (p.1 * q.2 - q.1 * p.2) (p.2 * q.2)
def timesQ (p q : Q) : Q := mkQ (p.1 * q.1) (p.2 * q.2)
def cmpR (p q : Q) : Int := (if p.1 * q.2 > q.1 * p.2 then 1 else 0) - (if p.1 * q.2 < q.1 * p.2 then 1 else 0)
@[reducible] def poolO (at_ cur : Int) (ns : List Int) : MO := .lst [.int at_, .int cur, .lst (ns.map D.int)]

/-! ### rules about mirrors -/
section
variable {m : Led} {E : XR}
theorem atI_0 {α : Type} {a : α} {t : List α} : atI (a :: t) 0 = some a := atI_nat (j := 0) rfl
theorem atI_1 {α : Type} {a b : α} {t : List α} : atI (a :: b :: t) 1 = some b := atI_nat (j := 1) rfl
theorem atI_2 {α : Type} {a b c : α} {t : List α} : atI (a :: b :: c :: t) 2 = some c := atI_nat (j := 2) rfl
theorem eqD_int {i j : Int} : eqD (.int i) (.int j) = decide (i = j) := by
  simp only [eqD, py, PyData.eqv]
  by_cases h : i = j
  · subst h; simp
  · simp [h]
theorem eqB_int {i j : Int} {R : Bool → Led → Prop} : eqB (.int i) (.int j) m R E = R (decide (i = j)) m := by
  have e : eqD (.int i) (.int j) = decide (i = j) := eqD_int
  apply propext
  constructor
  · rintro (⟨a, b, h1, h2, _, _, r⟩ | ⟨ks, ds, ls, es, h1 | ⟨_, _, h1, _⟩, _⟩)
    · cases h1
      cases h2
      rw [e] at r
      exact r
    · cases h1
    · cases h1
  · intro r
    exact .inl ⟨_, _, .now _, .now _, trivial, trivial, by rw [e]; exact r⟩
theorem neB_int {i j : Int} {R : Bool → Led → Prop} : neB (.int i) (.int j) m R E = R (!decide (i = j)) m := by
  have e : eqD (.int i) (.int j) = decide (i = j) := eqD_int
  apply propext
  constructor
  · rintro (⟨a, b, h1, h2, _, _, r⟩ | ⟨ks, ds, ls, es, h1 | ⟨_, _, h1, _⟩, _⟩)
    · cases h1
      cases h2
      rw [e] at r
      exact r
    · cases h1
    · cases h1
  · intro r
    exact .inl ⟨_, _, .now _, .now _, trivial, trivial, by rw [e]; exact r⟩
/-- == of data without bools -/
theorem eqB_d {a b : D} {R : Bool → Led → Prop} (ha : NB 20 a) (hb : NB 20 b) (k : ∀ t : Bool, (t = true ↔ a = b) → R t m) : eqB a b m R E := .inl ⟨a, b, .now _, .now _, ha.sh, hb.sh, k _ (eqv_iff 20 20 _ _ ha hb)⟩
theorem neB_d {a b : D} {R : Bool → Led → Prop} (ha : NB 20 a) (hb : NB 20 b) (k : ∀ t : Bool, (t = true ↔ a = b) → R (!t) m) : neB a b m R E := .inl ⟨a, b, .now _, .now _, ha.sh, hb.sh, k _ (eqv_iff 20 20 _ _ ha hb)⟩
theorem truB_int {i : Int} {R : Bool → Led → Prop} : truB (.int i) m R E = R (i != 0) m := by
  apply propext
  constructor
  · rintro ⟨k, h, r⟩
    cases h
    exact r
  · exact fun r => ⟨_, rfl, r⟩
theorem truB_bl {i : Bool} {R : Bool → Led → Prop} : truB (.bl i) m R E = R i m := by
  apply propext
  constructor
  · rintro ⟨k, h, r⟩
    cases h
    exact r
  · exact fun r => ⟨_, rfl, r⟩
/-- a comprehension whose turns change nothing -/
theorem comp_map {α : Type} {f : D → M (Option D)} {e : α → D} {g : α → D} {R : List D → Led → Prop} : ∀ (xs : List α) (acc : List D), (∀ x ∈ xs, ∀ Q : Option D → Led → Prop, Q (some (g x)) m → f (e x) m Q NoX) → acc.length + xs.length ≤ 100000 → R (acc ++ xs.map g) m → compM f (xs.map e) acc m R E
  | [], acc, _, _, h => by simp at h; exact h
  | x :: xs, acc, hf, hl, h => by
    refine hf x List.mem_cons_self _ ⟨by simp at hl; omega, ?_⟩
    refine comp_map xs (acc ++ [g x]) (fun y hy => hf y (List.mem_cons_of_mem _ hy)) (by simp at hl ⊢; omega) ?_
    simpa using h
/-- a for loop by an invariant over the items that are left -/
theorem for_ind {α σ τ : Type} {f : D → σ → M (Fl σ σ)} {e : α → D} {R : Fl σ τ → Led → Prop} (I : List α → σ → Led → Prop) (hs : ∀ x xs s m, I (x :: xs) s m → ∀ Q : Fl σ σ → Led → Prop, (∀ s' m', I xs s' m' → Q (.nx s') m') → (∀ d m', R (.rt d) m' → Q (.rt d) m') → (∀ s' m', R (.nx s') m' → Q (.bk s') m') → f (e x) s m Q E) (he : ∀ s m, I [] s m → R (.nx s) m) :
    ∀ (xs : List α) (s : σ) (m : Led), I xs s m → forF f (xs.map e) s m R E
  | [], s, m, h => he s m h
  | x :: xs, s, m, h => hs x xs s m h _ (fun s' m' h' => for_ind I hs he xs s' m' h') (fun d m' h' => h') (fun s' m' h' => h')
theorem for_fold {α β σ τ : Type} {f : D → σ → M (Fl σ σ)} {e : α → D} {enc : β → σ} {step : β → α → β} {R : Fl σ τ → Led → Prop} : ∀ (xs : List α) (b : β), (∀ x ∈ xs, ∀ (b : β) (Q : Fl σ σ → Led → Prop), Q (.nx (enc (step b x))) m → f (e x) (enc b) m Q E) → R (.nx (enc (xs.foldl step b))) m → forF f (xs.map e) (enc b) m R E
  | [], b, _, h => h
  | x :: xs, b, hf, h => hf x List.mem_cons_self b _ (for_fold xs (step b x) (fun y hy => hf y (List.mem_cons_of_mem _ hy)) h)
theorem while_ind {σ τ : Type} {t : σ → M Bool} {f : σ → M (Fl σ σ)} {R : Fl σ τ → Led → Prop} (W : Nat → σ → Led → Prop) (hs : ∀ n s m, W n s m → ∀ Q : Bool → Led → Prop, (∀ m', (∀ Q : Fl σ σ → Led → Prop, (∀ s' m' n', n' < n → W n' s' m' → Q (.nx s') m') → f s m' Q E) → Q true m') → (∀ m', R (.nx s) m' → Q false m') → t s m Q E) (n : Nat) (s : σ) (m : Led) (h : W n s m) : whileF t f s m R E := by
  have key : ∀ (j n : Nat), n < j → ∀ s m, W n s m → whileN (τ := τ) t f j s m R E := by
    intro j
    induction j with
    | zero => intro n hn; exact absurd hn (Nat.not_lt_zero _)
    | succ j ih =>
      intro n hn s m hw
      refine hs n s m hw _ (fun m' hf => ⟨fun _ => ?_, fun z => (nomatch z)⟩) (fun m' hr => ⟨fun z => (nomatch z), fun _ => hr⟩)
      exact hf _ fun s' m' n' hn' hw' => ih n' (Nat.lt_of_lt_of_le hn' (Nat.le_of_lt_succ hn)) s' m' hw'
  exact ⟨n + 1, key (n + 1) n (Nat.lt_succ_self n) s m h⟩
end
end DL


namespace DL
open PySem PySem.Spec PyProof.Rows L2 RZ
/-! ### steps of a mirror, from the head -/
section
variable {α β σ σ' τ : Type} {m m' : Led} {E : XR} {RD : D → Led → Prop} {RB : Bool → Led → Prop} {RL : List D → Led → Prop} {d x y a b : D} {i j : Int} {ds es : List D}
theorem ret_i {a : α} {R : α → Led → Prop} (h : R a m) : ret a m R E := h
theorem bnd_i {c : M α} {k : α → M β} {R : β → Led → Prop} (h : c m (fun a m' => k a m' R E) E) : bnd c k m R E := h
theorem rtM_i {R : Fl σ τ → Led → Prop} (h : R (.rt d) m) : rtM d m R E := h
theorem fnM_i {c : M (Fl Unit Empty)} (h : c m (fnR m RD) fun nm fd m' => E nm fd (m'.take m.length)) : fnM c m RD E := h
theorem fnK_i {c : M (Fl Unit Empty)} (h : c m (fnRK RD) E) : fnK c m RD E := h
theorem fnR_same (h : RD d m) : fnR m RD (.rt d) m := by show RD d (m.take m.length); rw [List.take_length]; exact h
theorem fnR_len (e : m'.length = m.length) (h : RD d m') : fnR m RD (.rt d) m' := by show RD d (m'.take m.length); rw [← e, List.take_length]; exact h
theorem seqF_i {c : M (Fl σ τ)} {k : σ → M (Fl σ' τ)} {R : Fl σ' τ → Led → Prop} (h : c m (fun a m' => seqK k a m' R E) E) : seqF c k m R E := h
theorem seqK_nx {s : σ} {k : σ → M (Fl σ' τ)} {R : Fl σ' τ → Led → Prop} (h : k s m R E) : seqK k (.nx s) m R E := h
theorem seqK_rt {k : σ → M (Fl σ' τ)} {R : Fl σ' τ → Led → Prop} (h : R (.rt d) m) : seqK k (.rt d) m R E := h
theorem upF_i {R : Fl σ τ → Led → Prop} (h : R (.rt d) m) : upF (.rt d) m R E := h
theorem iteM_i {k : Bool} {a b : M α} {R : α → Led → Prop} (h1 : k = true → a m R E) (h2 : k = false → b m R E) : iteM k a b m R E := ⟨h1, h2⟩
theorem iteM_ti {a b : M α} {R : α → Led → Prop} (h : a m R E) : iteM true a b m R E := ⟨fun _ => h, fun z => nomatch z⟩
theorem iteM_fi {a b : M α} {R : α → Led → Prop} (h : b m R E) : iteM false a b m R E := ⟨fun z => (nomatch z), fun _ => h⟩
/-- a test whose answer is a decision -/
theorem iteM_dec {p : Prop} {inst : Decidable p} {a b : M α} {R : α → Led → Prop} (h1 : p → a m R E) (h2 : ¬ p → b m R E) : iteM (decide p) a b m R E := ⟨fun e => h1 (of_decide_eq_true e), fun e => h2 (of_decide_eq_false e)⟩
theorem add_i (h : RD (.int (i + j)) m) : binM .Add (.int i) (.int j) m RD E := h
theorem sub_i (h : RD (.int (i - j)) m) : binM .Sub (.int i) (.int j) m RD E := h
theorem mul_i (c : IntMulOk i j) (h : RD (.int (i * j)) m) : binM .Mult (.int i) (.int j) m RD E := ⟨c, h⟩
theorem fdiv_i (c : CDivG i j) (h : RD (.int (i.fdiv j)) m) : binM .FloorDiv (.int i) (.int j) m RD E := ⟨c, h⟩
theorem mod_i (c : 0 < j) (h : RD (.int (i % j)) m) : binM .Mod (.int i) (.int j) m RD E := ⟨by omega, by rw [Int.fmod_eq_emod_of_nonneg _ (Int.le_of_lt c)]; exact h⟩
theorem pow_i (c : CPow i j) (h : RD (.int (i ^ j.toNat)) m) : binM .Pow (.int i) (.int j) m RD E := ⟨c, h⟩
theorem cat_i (c : ds.length + es.length ≤ 100000) (h : RD (.lst (ds ++ es)) m) : binM .Add (.lst ds) (.lst es) m RD E := ⟨c, h⟩
theorem neg_i (h : RD (.int (-i)) m) : unM .USub (.int i) m RD E := h
theorem eq_i (h : RB (decide (i = j)) m) : cmpB .Eq (.int i) (.int j) m RB E := by show eqB _ _ m RB E; rw [eqB_int]; exact h
theorem ne_i (h : RB (!decide (i = j)) m) : cmpB .NotEq (.int i) (.int j) m RB E := by show neB _ _ m RB E; rw [neB_int]; exact h
theorem lt_i (h : RB (decide (i < j)) m) : cmpB .Lt (.int i) (.int j) m RB E := h
theorem gt_i (h : RB (decide (j < i)) m) : cmpB .Gt (.int i) (.int j) m RB E := h
theorem eq_di (ha : NB 20 a) (hb : NB 20 b) (k : ∀ t : Bool, (t = true ↔ a = b) → RB t m) : cmpB .Eq a b m RB E := eqB_d (E := E) ha hb k
theorem ne_di (ha : NB 20 a) (hb : NB 20 b) (k : ∀ t : Bool, (t = true ↔ a = b) → RB (!t) m) : cmpB .NotEq a b m RB E := neB_d (E := E) ha hb k
theorem eq_dt (ha : NB 20 a) (h : RB true m) : cmpB .Eq a a m RB E := eq_di ha ha fun t ht => by rw [ht.mpr rfl]; exact h
theorem ne_dt (ha : NB 20 a) (h : RB false m) : cmpB .NotEq a a m RB E := ne_di ha ha fun t ht => by rw [ht.mpr rfl]; exact h
theorem cmpM_i {op : CmpOp} (h : cmpB op a b m (fun k m' => RD (.bl k) m') E) : cmpM op a b m RD E := h
theorem tru_int (h : RB (i != 0) m) : truB (.int i) m RB E := by rw [truB_int]; exact h
theorem tru_bl {k : Bool} (h : RB k m) : truB (.bl k) m RB E := by rw [truB_bl]; exact h
theorem notB_i {k : Bool} (h : RB (!k) m) : notB k m RB E := h
theorem andB_t {c : M Bool} (h : c m RB E) : andB c true m RB E := iteM_ti h
theorem andB_f {c : M Bool} (h : RB false m) : andB c false m RB E := iteM_fi h
theorem orB_t {c : M Bool} (h : RB true m) : orB c true m RB E := iteM_ti h
theorem orB_f {c : M Bool} (h : c m RB E) : orB c false m RB E := iteM_fi h
theorem orM_i {k : Bool} {c : M D} (h1 : k = true → RD (.bl true) m) (h2 : k = false → c m RD E) : orM c (.bl k) m RD E := ⟨k, rfl, h1, h2⟩
theorem andM_ti {c : M D} (h : c m RD E) : andM c (.bl true) m RD E := ⟨true, rfl, fun _ => h, fun z => nomatch z⟩
theorem ixT_i {v : D} (e : atI ds i = some v) (h : RD v m) : ixM (.tup ds) (.int i) m RD E := ⟨v, e, h⟩
theorem ixL_i {v : D} (e : atI ds i = some v) (h : RD v m) : ixM (.lst ds) (.int i) m RD E := ⟨v, e, h⟩
theorem ixR_i {p : Addr} {v : D} (n : Nat) (hm : m[n]? = some (p, .lst ds)) (e : atI ds i = some v) (h : RD v m) : ixM (.ref p) (.int i) m RD E := ⟨n, ds, v, hm, e, h⟩
theorem mkT_i (e : ds.length ≤ 100000) (h : RD (.tup ds) m) : mkT ds m RD E := ⟨e, h⟩
theorem mkL_i (e : ds.length ≤ 100000) (h : RD (.lst ds) m) : mkL ds m RD E := ⟨e, h⟩
theorem newL_i (e : ds.length ≤ 100000) (h : ∀ p, RD (.ref p) (m ++ [(p, .lst ds)])) : newL ds m RD E := ⟨e, h⟩
theorem abs_i (h : RD (.int (i.natAbs : Int)) m) : absM [.int i] m RD E := h
theorem int_i (h : RD (.int i) m) : intM [.int i] m RD E := h
theorem int_b {k : Bool} (h : RD (.int (if k then 1 else 0)) m) : intM [.bl k] m RD E := h
theorem max_i (h : RD (.int (max i j)) m) : maxM [.int i, .int j] m RD E := h
theorem len_L (h : RD (.int (ds.length : Nat)) m) : lenM [.lst ds] m RD E := h
theorem list_K (h : RD (.lst ds) m) : listM [.lsk ds] m RD E := h
theorem all_L {bs : List Bool} (h : RD (.bl (bs.all id)) m) : allM [.lst (bs.map D.bl)] m RD E := ⟨bs, rfl, h⟩
theorem seq_L (h : RL ds m) : seqM (.lst ds) m RL E := h
theorem rng_i (h1 : -100000 ≤ j) (h2 : j ≤ 100000) (h : RL (rangeD 0 j.toNat) m) : rngM (.int j) m RL E := ⟨h1, h2, h⟩
theorem lsM_i (h : RD (.lst ds) m) : lsM ds m RD E := h
theorem someM_i {R : Option D → Led → Prop} (h : R (some d) m) : someM d m R E := h
theorem st_i {p : Addr} {R : Unit → Led → Prop} (n k : Nat) (hm : m[n]? = some (p, .lst ds)) (hj : ixN ds.length i = some k) (h : R () (m.set n (p, .lst (ds.set k y)))) : stM (.ref p) (.int i) y m R E := ⟨n, ds, k, hm, hj, h⟩
theorem rai_i {nm : Str} {fd : Option (Str × D)} {R : α → Led → Prop} (h : E nm fd m) : raiM nm fd m R E := h
theorem rangeD_map (n : Nat) : rangeD 0 n = (List.range n).map fun (k : Nat) => D.int (k : Int) := by
  unfold rangeD
  apply List.map_congr_left
  intro k _
  rw [Int.zero_add]
theorem sp1_i {f : D → M D} (h : f a m RD E) : sp1 f [a] m RD E := h
end
end DL


namespace DL
open PySem PySem.Spec PyProof.Rows L2 RZ
/-! ### rules for mirrors of dicts, instances, sorted .. -/
section
variable {α β σ σ' τ : Type} {m m' : Led} {E : XR} {RD : D → Led → Prop} {RB : Bool → Led → Prop} {RL : List D → Led → Prop} {d x y a b v : D} {i j : Int} {ds es vs : List D} {ks ls : List (List Int)} {k : List Int} {cn mt f : Str} {ns : List Str} {cs : List Str}
theorem iteM_nti {a b : M α} {R : α → Led → Prop} (h : b m R E) : iteM (!true) a b m R E := iteM_fi h
theorem iteM_nfi {a b : M α} {R : α → Led → Prop} (h : a m R E) : iteM (!false) a b m R E := iteM_ti h
/-! dicts -/
/-! instances -/
/-! slices and options of ints -/
theorem intO_i {R : Option Int → Led → Prop} (h : R (some i) m) : intO (.int i) m R E := h
end
end DL


namespace K12
open PySem PySem.Spec PyProof.Rows L2 DL
def topS (i : Nat) : Stmt := PySem.Challenge.pw_leastcomplaint_k12_texts_of_ratios.main.body.getD i (.Pass ⟨0, 0, 0, 0⟩)
def g_DIGITS : D := .str "0123456789"
def g_LONGEST_TEXT : D := .int 60
abbrev s_law_pool : Stmt := topS 13
theorem sc_law_pool : FnScope ["_law_script"] ["_law_script"] (defScope s_law_pool) := ⟨rfl, rfl, rfl, by decide +kernel, rfl, by decide +kernel, by decide +kernel⟩
def b_law_pool (v_law_script : D) : M (Fl Unit Empty) := (bnd (bnd (bnd (ret (.int 0)) fun d7 => bnd (bnd (ret (.int 0)) fun d5 => bnd (bnd (bnd (bnd (ret v_law_script) fun d1 => bnd (ret []) fun ds2 => ret (d1 :: ds2)) listM) fun d3 => bnd (ret []) fun ds4 => ret (d3 :: ds4)) fun ds6 => ret (d5 :: ds6)) fun ds8 => ret (d7 :: ds8)) newL) rtM)
def m_law_pool : SpX := sp1 fun v_law_script => fnK (b_law_pool v_law_script)
theorem ok_law_pool {P : Program} {w : World} {K : PySem.W.Frag} {mg : Str → Option Value} {base : Heap} {k : Nat} {f : Addr} {fd : FuncData} {dvs : List V} (F : FnD K "_law_pool" "_law_pool" s_law_pool dvs f fd) (hk : 0 ≤ k) (m_list : mg "list" = none) : FnOk P w K mg base (L2.CX P w) (k + 1) f fd ["_law_script"] (liftX K mg m_law_pool) :=
  fk1 F sc_law_pool fun cdv A outer s H E Z hr v_law_script => by
    have hu := hr.units
    exact (bf_ret (ev_lstM (eva_cons ev_int (eva_cons ev_int (eva_cons (ev_blT m_list bt_list (listM_ok rfl) (eva_cons (ev_var .here) eva_nil)) eva_nil)))))
abbrev s_law_divisor : Stmt := topS 15
theorem sc_law_divisor : FnScope ["_law_numbers", "_law_found", "_law_number", "_law_one", "_law_other"] ["_law_numbers"] (defScope s_law_divisor) := ⟨rfl, rfl, rfl, by decide +kernel, rfl, by decide +kernel, by decide +kernel⟩
def b_law_divisor (v_law_numbers : D) : M (Fl Unit Empty) := (bnd (ret (.int 0)) fun v_law_found => (bnd (bnd (ret v_law_numbers) seqM) fun ds2 => seqF (forF (fun v_law_number (s1 : D) => (bnd (bnd (bnd (ret v_law_number) fun d3 => bnd (ret []) fun ds4 => ret (d3 :: ds4)) absM) fun v_law_one => (bnd (ret s1) fun v_law_other => (seqF (whileF (fun (s5 : D × D) => (bnd (ret s5.2) fun x6 => bnd (ret (.int 0)) fun x7 => cmpB .NotEq x6 x7)) (fun (s5 : D × D) => (bnd (ret s5.2) fun v_law_one_12 => bnd (bnd (bnd (bnd (ret s5.1) fun d8 => bnd (ret []) fun ds9 => ret (d8 :: ds9)) intM) fun x10 => bnd (ret s5.2) fun x11 => binM .Mod x10 x11) fun v_law_other_13 => (ret (.nx ((v_law_one_12, v_law_other_13)))))) ((v_law_one, v_law_other))) fun (s5 : D × D) => (bnd (ret s5.1) fun v_law_found => (ret (.nx v_law_found))))))) ds2 v_law_found) fun (s1 : D) => (bnd (ret s1) rtM)))
def m_law_divisor : SpX := sp1 fun v_law_numbers => fnM (b_law_divisor v_law_numbers)
theorem ok_law_divisor {P : Program} {w : World} {K : PySem.W.Frag} {mg : Str → Option Value} {base : Heap} {k : Nat} {f : Addr} {fd : FuncData} {dvs : List V} (F : FnD K "_law_divisor" "_law_divisor" s_law_divisor dvs f fd) (hk : 0 ≤ k) (m_abs : mg "abs" = none) (m_int : mg "int" = none) : FnOk P w K mg base (L2.CX P w) (k + 1) f fd ["_law_numbers"] (liftX K mg m_law_divisor) :=
  fn1 F sc_law_divisor fun cdv A outer s H E Z hr v_law_numbers => by
    have hu := hr.units
    exact (bf_set ev_int (fun _ => (.there .here)) (fun v_law_found => (bf_for (e1 := (fun (s1 : D) => [("_law_numbers", some v_law_numbers), ("_law_found", some s1), ("_law_number", none), ("_law_one", none), ("_law_other", none)])) (iv_seq (ev_var .here)) (.same (.same (.same (.same (.same .nil))))) (fun v_law_number s1 => bg_name (.there (.there .here)) (bf_set (ev_blt m_abs bt_abs absM_ok (eva_cons (ev_var (.there (.there .here))) eva_nil)) (fun _ => (.there (.there (.there .here)))) (fun v_law_one => (bf_set (ev_var (.there .here)) (fun _ => (.there (.there (.there (.there .here))))) (fun v_law_other => (bf_while (e1 := (fun (s5 : D × D) => [("_law_numbers", some v_law_numbers), ("_law_found", some s1), ("_law_number", some v_law_number), ("_law_one", some s5.1), ("_law_other", some s5.2)])) (fun s5 => (tv_cmp hu (ev_var (.there (.there (.there (.there .here))))) ev_int)) (.same (.same (.same (.same (.same .nil))))) (fun s5 => (bf_par (ev_var (.there (.there (.there (.there .here))))) (ev_bin (ev_blT m_int bt_int intM_ok (eva_cons (ev_var (.there (.there (.there .here)))) eva_nil)) (ev_var (.there (.there (.there (.there .here)))))) (fun _ => (.there (.there (.there .here)))) (fun _ _ => (.there (.there (.there (.there .here))))) (by decide) (fun v_law_one_12 v_law_other_13 => (bf_nil (l := (.same (.same (.same (.same (.same .nil)))))))))) (fun s5 => (bf_set (ev_var (.there (.there (.there .here)))) (fun _ => (.there .here)) (fun v_law_found => (bf_nil (l := (.same (.same (.drop (.drop (.drop .nil)))))))))))))))) (fun s1 => (bf_ret (ev_var (.there .here)))))))
abbrev s_law_ratio : Stmt := topS 16
theorem sc_law_ratio : FnScope ["_law_up", "_law_down", "_law_piece"] ["_law_up", "_law_down"] (defScope s_law_ratio) := ⟨rfl, rfl, rfl, by decide +kernel, rfl, by decide +kernel, by decide +kernel⟩
def b_law_ratio (v_law_up : D) (v_law_down : D) : M (Fl Unit Empty) := (bnd (bnd (bnd (bnd (bnd (ret v_law_up) fun d3 => bnd (bnd (ret v_law_down) fun d1 => bnd (ret []) fun ds2 => ret (d1 :: ds2)) fun ds4 => ret (d3 :: ds4)) mkL) fun d5 => bnd (ret []) fun ds6 => ret (d5 :: ds6)) m_law_divisor) fun v_law_piece => (seqF (bnd (bnd (ret v_law_down) fun x7 => bnd (ret (.int 0)) fun x8 => cmpB .Lt x7 x8) fun b9 => iteM b9 (bnd (bnd (ret v_law_piece) fun x11 => unM .USub x11) fun v_law_piece => (ret (.nx v_law_piece))) (ret (.nx v_law_piece))) fun (s10 : D) => (bnd (bnd (bnd (bnd (ret v_law_up) fun x12 => bnd (ret s10) fun x13 => binM .FloorDiv x12 x13) fun d18 => bnd (bnd (bnd (ret v_law_down) fun x14 => bnd (ret s10) fun x15 => binM .FloorDiv x14 x15) fun d16 => bnd (ret []) fun ds17 => ret (d16 :: ds17)) fun ds19 => ret (d18 :: ds19)) mkT) rtM)))
def m_law_ratio : SpX := sp2 fun v_law_up v_law_down => fnM (b_law_ratio v_law_up v_law_down)
theorem ok_law_ratio {P : Program} {w : World} {K : PySem.W.Frag} {mg : Str → Option Value} {base : Heap} {k : Nat} {f : Addr} {fd : FuncData} {dvs : List V} (F : FnD K "_law_ratio" "_law_ratio" s_law_ratio dvs f fd) (hk : 1 ≤ k) (h_law_divisor : KnowsX P w K mg base k "_law_divisor" 1 [] m_law_divisor) : FnOk P w K mg base (L2.CX P w) (k + 1) f fd ["_law_up", "_law_down"] (liftX K mg m_law_ratio) :=
  fn2 F sc_law_ratio fun cdv A outer s H E Z hr v_law_up v_law_down => by
    have hu := hr.units
    exact (bf_set (ev_call h_law_divisor (hr.mono (by omega)) (eva_cons (ev_lst (eva_cons (ev_var .here) (eva_cons (ev_var (.there .here)) eva_nil))) eva_nil)) (fun _ => (.there (.there .here))) (fun v_law_piece => (bf_if (e1 := (fun (s10 : D) => [("_law_up", some v_law_up), ("_law_down", some v_law_down), ("_law_piece", some s10)])) (tv_cmp hu (ev_var (.there .here)) ev_int) (bf_set (ev_un (ev_var (.there (.there .here)))) (fun _ => (.there (.there .here))) (fun v_law_piece => (bf_nil (l := (.same (.same (.same .nil))))))) (bf_nil (l := (.same (.same (.same .nil))))) (fun s10 => (bf_ret (ev_tup (eva_cons (ev_bin (ev_var .here) (ev_var (.there (.there .here)))) (eva_cons (ev_bin (ev_var (.there .here)) (ev_var (.there (.there .here)))) eva_nil))))))))
abbrev s_read_integer : Stmt := topS 9
theorem sc_read_integer : FnScope ["text", "figures", "sign"] ["text"] (defScope s_read_integer) := ⟨rfl, rfl, rfl, by decide +kernel, rfl, by decide +kernel, by decide +kernel⟩
def b_read_integer (v_text : D) : M (Fl Unit Empty) := (bnd (bnd (bnd (bnd (ret v_text) fun x1 => bnd (ret none) fun x2 => bnd (bnd (ret (.int 1)) intO) fun x3 => slX x1 x2 x3) fun x4 => bnd (ret (.str "-")) fun x5 => cmpB .Eq x4 x5) fun k9 => iteM k9 (bnd (ret v_text) fun x6 => bnd (bnd (ret (.int 1)) intO) fun x7 => bnd (ret none) fun x8 => slX x6 x7 x8) (ret v_text)) fun v_figures => (bnd (bnd (bnd (ret v_figures) fun x16 => bnd (ret (.str "")) fun x17 => cmpB .Eq x16 x17) (orB (bnd (bnd (bnd (bnd (bnd (bnd (ret v_figures) strW) fun ds13 => bnd (compM (fun v_sign_10 => bnd (bnd (ret v_sign_10) fun x11 => bnd (ret g_DIGITS) fun x12 => inXM x11 x12) someM) ds13 []) lsM) fun d14 => bnd (ret []) fun ds15 => ret (d14 :: ds15)) allM) truB) notB))) fun b18 => iteM b18 (bnd (ret .non) rtM) (bnd (bnd (bnd (bnd (bnd (ret v_figures) fun x21 => bnd (ret (.int 0)) fun x22 => ixM x21 x22) fun x23 => bnd (ret (.str "0")) fun x24 => cmpB .Eq x23 x24) (andB (bnd (ret v_text) fun x19 => bnd (ret (.str "0")) fun x20 => cmpB .NotEq x19 x20))) fun k27 => iteM k27 (ret .non) (bnd (bnd (ret v_text) fun d25 => bnd (ret []) fun ds26 => ret (d25 :: ds26)) intX)) rtM)))
def m_read_integer : SpX := sp1 fun v_text => fnM (b_read_integer v_text)
theorem ok_read_integer {P : Program} {w : World} {K : PySem.W.Frag} {mg : Str → Option Value} {base : Heap} {k : Nat} {f : Addr} {fd : FuncData} {dvs : List V} (F : FnD K "read_integer" "read_integer" s_read_integer dvs f fd) (hk : 0 ≤ k) (m_all : mg "all" = none) (m_int : mg "int" = none) (h_DIGITS : GC K mg "DIGITS" g_DIGITS) : FnOk P w K mg base (L2.CX P w) (k + 1) f fd ["text"] (liftX K mg m_read_integer) :=
  fn1 F sc_read_integer fun cdv A outer s H E Z hr v_text => by
    have hu := hr.units
    exact (bf_set (ev_if (tv_cmp hu (ev_sliceX (ev_var .here) evo_none (evo_some ev_int)) ev_str) (ev_sliceX (ev_var .here) (evo_some ev_int) evo_none) (ev_var .here)) (fun _ => (.there .here)) (fun v_figures => (bf_ifX (tv_w (wv_or (tv_cmp hu (ev_var (.there .here)) ev_str) (wv_or1 (tv_not (tv_val (ev_blt m_all bt_all (allM_ok rfl) (eva_cons (ev_lc (.there (.there .here)) (iv_strW (ev_var (.there .here))) (cv0 (fun _ => (.there (.there .here))) (fun v_sign_10 s0 H0 C0 cl0 fp0 => (ev_inX (ev_var (.there (.there .here))) (ev_glob h_DIGITS))))) eva_nil))))))) (bf_ret ev_non) (bf_ret (ev_if (tv_w (wv_and (tv_cmp hu (ev_ix hu (ev_var (.there .here)) ev_int) ev_str) (wv_and1 (tv_cmp hu (ev_var .here) ev_str)))) ev_non (ev_blT m_int bt_int intX_ok (eva_cons (ev_var .here) eva_nil)))))))
abbrev s_divisor : Stmt := topS 7
theorem sc_divisor : FnScope ["numbers", "found", "number", "one", "other"] ["numbers"] (defScope s_divisor) := ⟨rfl, rfl, rfl, by decide +kernel, rfl, by decide +kernel, by decide +kernel⟩
def b_divisor (v_numbers : D) : M (Fl Unit Empty) := (bnd (ret (.int 0)) fun v_found => (bnd (bnd (ret v_numbers) seqM) fun ds2 => seqF (forF (fun v_number (s1 : D) => (bnd (bnd (bnd (ret v_number) fun d3 => bnd (ret []) fun ds4 => ret (d3 :: ds4)) absM) fun v_one_5 => bnd (ret s1) fun v_other_6 => (seqF (whileF (fun (s7 : D × D) => (bnd (ret s7.2) truB)) (fun (s7 : D × D) => (bnd (ret s7.2) fun v_one_10 => bnd (bnd (ret s7.1) fun x8 => bnd (ret s7.2) fun x9 => binM .Mod x8 x9) fun v_other_11 => (ret (.nx ((v_one_10, v_other_11)))))) ((v_one_5, v_other_6))) fun (s7 : D × D) => (bnd (ret s7.1) fun v_found => (ret (.nx v_found)))))) ds2 v_found) fun (s1 : D) => (bnd (ret s1) rtM)))
def m_divisor : SpX := sp1 fun v_numbers => fnM (b_divisor v_numbers)
theorem ok_divisor {P : Program} {w : World} {K : PySem.W.Frag} {mg : Str → Option Value} {base : Heap} {k : Nat} {f : Addr} {fd : FuncData} {dvs : List V} (F : FnD K "divisor" "divisor" s_divisor dvs f fd) (hk : 0 ≤ k) (m_abs : mg "abs" = none) : FnOk P w K mg base (L2.CX P w) (k + 1) f fd ["numbers"] (liftX K mg m_divisor) :=
  fn1 F sc_divisor fun cdv A outer s H E Z hr v_numbers => by
    have hu := hr.units
    exact (bf_set ev_int (fun _ => (.there .here)) (fun v_found => (bf_for (e1 := (fun (s1 : D) => [("numbers", some v_numbers), ("found", some s1), ("number", none), ("one", none), ("other", none)])) (iv_seq (ev_var .here)) (.same (.same (.same (.same (.same .nil))))) (fun v_number s1 => bg_name (.there (.there .here)) (bf_par (ev_blt m_abs bt_abs absM_ok (eva_cons (ev_var (.there (.there .here))) eva_nil)) (ev_var (.there .here)) (fun _ => (.there (.there (.there .here)))) (fun _ _ => (.there (.there (.there (.there .here))))) (by decide) (fun v_one_5 v_other_6 => (bf_while (e1 := (fun (s7 : D × D) => [("numbers", some v_numbers), ("found", some s1), ("number", some v_number), ("one", some s7.1), ("other", some s7.2)])) (fun s7 => (tv_val (ev_var (.there (.there (.there (.there .here))))))) (.same (.same (.same (.same (.same .nil))))) (fun s7 => (bf_par (ev_var (.there (.there (.there (.there .here))))) (ev_bin (ev_var (.there (.there (.there .here)))) (ev_var (.there (.there (.there (.there .here)))))) (fun _ => (.there (.there (.there .here)))) (fun _ _ => (.there (.there (.there (.there .here))))) (by decide) (fun v_one_10 v_other_11 => (bf_nil (l := (.same (.same (.same (.same (.same .nil)))))))))) (fun s7 => (bf_set (ev_var (.there (.there (.there .here)))) (fun _ => (.there .here)) (fun v_found => (bf_nil (l := (.same (.same (.drop (.drop (.drop .nil)))))))))))))) (fun s1 => (bf_ret (ev_var (.there .here)))))))
abbrev s_ratio : Stmt := topS 8
theorem sc_ratio : FnScope ["top", "bottom", "part"] ["top", "bottom"] (defScope s_ratio) := ⟨rfl, rfl, rfl, by decide +kernel, rfl, by decide +kernel, by decide +kernel⟩
def b_ratio (v_top : D) (v_bottom : D) : M (Fl Unit Empty) := (bnd (bnd (ret v_bottom) fun x1 => bnd (ret (.int 0)) fun x2 => cmpB .Eq x1 x2) fun b3 => iteM b3 (bnd (ret v_bottom) fun d4 => raiM "BadRatio" (some ("bottom", d4))) (bnd (bnd (bnd (bnd (bnd (ret v_top) fun d7 => bnd (bnd (ret v_bottom) fun d5 => bnd (ret []) fun ds6 => ret (d5 :: ds6)) fun ds8 => ret (d7 :: ds8)) mkL) fun d9 => bnd (ret []) fun ds10 => ret (d9 :: ds10)) m_divisor) fun v_part => (seqF (bnd (bnd (ret v_bottom) fun x11 => bnd (ret (.int 0)) fun x12 => cmpB .Lt x11 x12) fun b13 => iteM b13 (bnd (bnd (ret v_part) fun x15 => unM .USub x15) fun v_part => (ret (.nx v_part))) (ret (.nx v_part))) fun (s14 : D) => (bnd (bnd (bnd (bnd (ret v_top) fun x16 => bnd (ret s14) fun x17 => binM .FloorDiv x16 x17) fun d22 => bnd (bnd (bnd (ret v_bottom) fun x18 => bnd (ret s14) fun x19 => binM .FloorDiv x18 x19) fun d20 => bnd (ret []) fun ds21 => ret (d20 :: ds21)) fun ds23 => ret (d22 :: ds23)) mkT) rtM))))
def m_ratio : SpX := sp2 fun v_top v_bottom => fnM (b_ratio v_top v_bottom)
theorem ok_ratio {P : Program} {w : World} {K : PySem.W.Frag} {mg : Str → Option Value} {base : Heap} {k : Nat} {f : Addr} {fd : FuncData} {dvs : List V} (F : FnD K "ratio" "ratio" s_ratio dvs f fd) (hk : 1 ≤ k) (h_divisor : KnowsX P w K mg base k "divisor" 1 [] m_divisor) {C_BadRatio : Addr} (x_BadRatio : XK1 P w K mg "BadRatio" "bottom" C_BadRatio) : FnOk P w K mg base (L2.CX P w) (k + 1) f fd ["top", "bottom"] (liftX K mg m_ratio) :=
  fn2 F sc_ratio fun cdv A outer s H E Z hr v_top v_bottom => by
    have hu := hr.units
    exact (bf_ifX (tv_cmp hu (ev_var (.there .here)) ev_int) (bf_raise1 x_BadRatio (hr.mono (by omega)) (ev_var (.there .here))) (bf_set (ev_call h_divisor (hr.mono (by omega)) (eva_cons (ev_lst (eva_cons (ev_var .here) (eva_cons (ev_var (.there .here)) eva_nil))) eva_nil)) (fun _ => (.there (.there .here))) (fun v_part => (bf_if (e1 := (fun (s14 : D) => [("top", some v_top), ("bottom", some v_bottom), ("part", some s14)])) (tv_cmp hu (ev_var (.there .here)) ev_int) (bf_set (ev_un (ev_var (.there (.there .here)))) (fun _ => (.there (.there .here))) (fun v_part => (bf_nil (l := (.same (.same (.same .nil))))))) (bf_nil (l := (.same (.same (.same .nil))))) (fun s14 => (bf_ret (ev_tup (eva_cons (ev_bin (ev_var .here) (ev_var (.there (.there .here)))) (eva_cons (ev_bin (ev_var (.there .here)) (ev_var (.there (.there .here)))) eva_nil)))))))))
abbrev s_ratio_text : Stmt := topS 10
theorem sc_ratio_text : FnScope ["one"] ["one"] (defScope s_ratio_text) := ⟨rfl, rfl, rfl, by decide +kernel, rfl, by decide +kernel, by decide +kernel⟩
def b_ratio_text (v_one : D) : M (Fl Unit Empty) := (bnd (bnd (bnd (bnd (ret v_one) fun x1 => bnd (ret (.int 1)) fun x2 => ixM x1 x2) fun x3 => bnd (ret (.int 1)) fun x4 => cmpB .Eq x3 x4) fun k17 => iteM k17 (bnd (bnd (bnd (ret v_one) fun x5 => bnd (ret (.int 0)) fun x6 => ixM x5 x6) fun d7 => bnd (ret []) fun ds8 => ret (d7 :: ds8)) strX) (bnd (bnd (ret v_one) fun x9 => bnd (ret (.int 0)) fun x10 => ixM x9 x10) fun x13 => bnd (fmM x13) fun u15 => bnd (bnd (ret v_one) fun x11 => bnd (ret (.int 1)) fun x12 => ixM x11 x12) fun x14 => bnd (fmM x14) fun v16 => ret (.str (u15 ++ "/" ++ v16)))) rtM)
def m_ratio_text : SpX := sp1 fun v_one => fnM (b_ratio_text v_one)
theorem ok_ratio_text {P : Program} {w : World} {K : PySem.W.Frag} {mg : Str → Option Value} {base : Heap} {k : Nat} {f : Addr} {fd : FuncData} {dvs : List V} (F : FnD K "ratio_text" "ratio_text" s_ratio_text dvs f fd) (hk : 0 ≤ k) (m_str : mg "str" = none) : FnOk P w K mg base (L2.CX P w) (k + 1) f fd ["one"] (liftX K mg m_ratio_text) :=
  fn1 F sc_ratio_text fun cdv A outer s H E Z hr v_one => by
    have hu := hr.units
    exact (bf_ret (ev_if (tv_cmp hu (ev_ix hu (ev_var .here) ev_int) ev_int) (ev_blT m_str bt_str strX_ok (eva_cons (ev_ix hu (ev_var .here) ev_int) eva_nil)) (ev_fs3 (ev_ix hu (ev_var .here) ev_int) (ev_ix hu (ev_var .here) ev_int))))
abbrev s_read_ratio : Stmt := topS 11
theorem sc_read_ratio : FnScope ["text", "parts", "numbers", "part", "found"] ["text"] (defScope s_read_ratio) := ⟨rfl, rfl, rfl, by decide +kernel, rfl, by decide +kernel, by decide +kernel⟩
def b_read_ratio (v_text : D) : M (Fl Unit Empty) := (bnd (bnd (bnd (bnd (ret v_text) fun d1 => bnd (ret []) fun ds2 => ret (d1 :: ds2)) lenM) fun x3 => bnd (ret g_LONGEST_TEXT) fun x4 => cmpB .Gt x3 x4) fun b5 => iteM b5 (raiM "BadText" none) (bnd (bnd (ret v_text) fun u8 => bnd (chkS u8) fun _ => bnd (bnd (ret (.str "/")) fun d6 => bnd (ret []) fun ds7 => ret (d6 :: ds7)) (splX u8)) fun v_parts => (bnd (bnd (bnd (ret v_parts) seqM) fun ds12 => bnd (compM (fun v_part_9 => bnd (bnd (bnd (ret v_part_9) fun d10 => bnd (ret []) fun ds11 => ret (d10 :: ds11)) m_read_integer) someM) ds12 []) lsM) fun v_numbers => (bnd (bnd (bnd (bnd (bnd (ret v_parts) fun d23 => bnd (ret []) fun ds24 => ret (d23 :: ds24)) lenM) fun x25 => bnd (ret (.int 2)) fun x26 => cmpB .Gt x25 x26) (orB (bnd (bnd (ret .non) fun x21 => bnd (ret v_numbers) fun x22 => inPB false x21 x22) (orB (bnd (bnd (bnd (bnd (ret v_parts) fun d17 => bnd (ret []) fun ds18 => ret (d17 :: ds18)) lenM) fun x19 => bnd (ret (.int 2)) fun x20 => cmpB .Eq x19 x20) (andB (bnd (bnd (ret v_numbers) fun x13 => bnd (ret (.int 1)) fun x14 => ixM x13 x14) fun x15 => bnd (ret (.int 2)) fun x16 => cmpB .Lt x15 x16))))))) fun b27 => iteM b27 (raiM "BadText" none) (bnd (bnd (bnd (bnd (bnd (ret v_parts) fun d28 => bnd (ret []) fun ds29 => ret (d28 :: ds29)) lenM) fun x30 => bnd (ret (.int 2)) fun x31 => cmpB .Eq x30 x31) fun k47 => iteM k47 (bnd (bnd (bnd (ret v_numbers) fun x32 => bnd (ret (.int 0)) fun x33 => ixM x32 x33) fun d39 => bnd (bnd (bnd (ret v_numbers) fun x35 => bnd (bnd (ret (.int 1)) fun x34 => unM .USub x34) fun x36 => ixM x35 x36) fun d37 => bnd (ret []) fun ds38 => ret (d37 :: ds38)) fun ds40 => ret (d39 :: ds40)) m_ratio) (bnd (bnd (bnd (ret v_numbers) fun x41 => bnd (ret (.int 0)) fun x42 => ixM x41 x42) fun d45 => bnd (bnd (ret (.int 1)) fun d43 => bnd (ret []) fun ds44 => ret (d43 :: ds44)) fun ds46 => ret (d45 :: ds46)) mkT)) fun v_found => (bnd (bnd (bnd (bnd (ret v_found) fun d48 => bnd (ret []) fun ds49 => ret (d48 :: ds49)) m_ratio_text) fun x50 => bnd (ret v_text) fun x51 => cmpB .NotEq x50 x51) fun b52 => iteM b52 (raiM "BadText" none) (bnd (ret v_found) rtM)))))))
def m_read_ratio : SpX := sp1 fun v_text => fnM (b_read_ratio v_text)
theorem ok_read_ratio {P : Program} {w : World} {K : PySem.W.Frag} {mg : Str → Option Value} {base : Heap} {k : Nat} {f : Addr} {fd : FuncData} {dvs : List V} (F : FnD K "read_ratio" "read_ratio" s_read_ratio dvs f fd) (hk : 2 ≤ k) (m_len : mg "len" = none) (h_ratio : KnowsX P w K mg base k "ratio" 2 [] m_ratio) (h_ratio_text : KnowsX P w K mg base k "ratio_text" 1 [] m_ratio_text) (h_read_integer : KnowsX P w K mg base k "read_integer" 1 [] m_read_integer) {C_BadText : Addr} (x_BadText : XK0 P w K mg "BadText" C_BadText) (h_LONGEST_TEXT : GC K mg "LONGEST_TEXT" g_LONGEST_TEXT) : FnOk P w K mg base (L2.CX P w) (k + 1) f fd ["text"] (liftX K mg m_read_ratio) :=
  fn1 F sc_read_ratio fun cdv A outer s H E Z hr v_text => by
    have hu := hr.units
    exact (bf_ifX (tv_cmp hu (ev_blt m_len bt_len lenM_ok (eva_cons (ev_var .here) eva_nil)) (ev_glob h_LONGEST_TEXT)) (bf_raise0 x_BadText (hr.mono (by omega))) (bf_set (ev_split (ev_var .here) (eva_cons ev_str eva_nil)) (fun _ => (.there .here)) (fun v_parts => (bf_setLc (.there (.there (.there .here))) (.there (.there .here)) (iv_seq (ev_var (.there .here))) (cv0 (fun _ => (.there (.there (.there .here)))) (fun v_part_9 s0 H0 C0 cl0 fp0 => (ev_call h_read_integer (hr.mono (by omega)) (eva_cons (ev_var (.there (.there (.there .here)))) eva_nil)))) (fun _ => (.there (.there .here))) (fun v_numbers => (bf_ifX (tv_w (wv_or (tv_cmp hu (ev_blt m_len bt_len lenM_ok (eva_cons (ev_var (.there .here)) eva_nil)) ev_int) (wv_or (tv_inP hu ev_non (ev_var (.there (.there .here)))) (wv_or1 (tv_w (wv_and (tv_cmp hu (ev_blt m_len bt_len lenM_ok (eva_cons (ev_var (.there .here)) eva_nil)) ev_int) (wv_and1 (tv_cmp hu (ev_ix hu (ev_var (.there (.there .here))) ev_int) ev_int)))))))) (bf_raise0 x_BadText (hr.mono (by omega))) (bf_set (ev_if (tv_cmp hu (ev_blt m_len bt_len lenM_ok (eva_cons (ev_var (.there .here)) eva_nil)) ev_int) (ev_call h_ratio (hr.mono (by omega)) (eva_cons (ev_ix hu (ev_var (.there (.there .here))) ev_int) (eva_cons (ev_ix hu (ev_var (.there (.there .here))) (ev_un ev_int)) eva_nil))) (ev_tup (eva_cons (ev_ix hu (ev_var (.there (.there .here))) ev_int) (eva_cons ev_int eva_nil)))) (fun _ => (.there (.there (.there (.there .here))))) (fun v_found => (bf_ifX (tv_cmp hu (ev_call h_ratio_text (hr.mono (by omega)) (eva_cons (ev_var (.there (.there (.there (.there .here))))) eva_nil)) (ev_var .here)) (bf_raise0 x_BadText (hr.mono (by omega))) (bf_ret (ev_var (.there (.there (.there (.there .here)))))))))))))))
abbrev s_law_read : Stmt := topS 19
theorem sc_law_read : FnScope ["_law_text"] ["_law_text"] (defScope s_law_read) := ⟨rfl, rfl, rfl, by decide +kernel, rfl, by decide +kernel, by decide +kernel⟩
def b_law_read (v_law_text : D) : M (Fl Unit Empty) := (seqF (tryM [("BadRatio", false), ("BadText", true), ("DivisionError", false)] (bnd (bnd (bnd (bnd (bnd (ret v_law_text) fun d1 => bnd (ret []) fun ds2 => ret (d1 :: ds2)) m_read_ratio) fun d3 => bnd (ret []) fun ds4 => ret (d3 :: ds4)) mkL) rtM) fun _ => (bnd (bnd (ret []) mkL) rtM)) fun (s5 : Empty) => nomatch s5)
def m_law_read : SpX := sp1 fun v_law_text => fnM (b_law_read v_law_text)
theorem ok_law_read {P : Program} {w : World} {K : PySem.W.Frag} {mg : Str → Option Value} {base : Heap} {k : Nat} {f : Addr} {fd : FuncData} {dvs : List V} (F : FnD K "_law_read" "_law_read" s_law_read dvs f fd) (hk : 3 ≤ k) (h_read_ratio : KnowsX P w K mg base k "read_ratio" 1 [] m_read_ratio) (c_BadText : ∃ Cc, mg "BadText" = some (.ref Cc)) (xm_BadText : ∀ q ∈ ([("BadRatio", false), ("BadText", true), ("DivisionError", false)] : List (Str × Bool)), XM K mg q.1 "BadText" q.2) : FnOk P w K mg base (L2.CX P w) (k + 1) f fd ["_law_text"] (liftX K mg m_law_read) :=
  fn1 F sc_law_read fun cdv A outer s H E Z hr v_law_text => by
    have hu := hr.units
    exact (bf_try (e1 := fun (s5 : Empty) => nomatch s5) c_BadText xm_BadText (fun pn xe q => (by_ret (ev_lst (eva_cons (ev_call h_read_ratio (hr.mono (by omega)) (eva_cons (ev_var .here) eva_nil)) eva_nil)))) (fun a oe pn => (bf_ret (ev_lst eva_nil))) (fun s5 => nomatch s5))
abbrev s_law_take : Stmt := topS 14
theorem sc_law_take : FnScope ["_law_pool_here", "_law_many", "_law_at", "_law_drawn", "_law_mixed", "_law_digit"] ["_law_pool_here", "_law_many"] (defScope s_law_take) := ⟨rfl, rfl, rfl, by decide +kernel, rfl, by decide +kernel, by decide +kernel⟩
def b_law_take (v_law_pool_here : D) (v_law_many : D) : M (Fl Unit Empty) := (seqF (bnd (bnd (bnd (ret v_law_pool_here) fun x1 => bnd (ret (.int 1)) fun x2 => ixM x1 x2) fun x3 => bnd (ret (.int 0)) fun x4 => cmpB .Eq x3 x4) fun b5 => iteM b5 (bnd (bnd (ret v_law_pool_here) fun x7 => bnd (ret (.int 0)) fun x8 => ixM x7 x8) fun v_law_at => (bnd (bnd (ret v_law_at) fun x9 => bnd (ret (.int 1)) fun x10 => binM .Add x9 x10) fun x67 => bnd (ret v_law_pool_here) fun x68 => bnd (ret (.int 0)) fun x69 => bnd (stM x68 x69 x67) fun _ => (bnd (bnd (bnd (bnd (ret v_law_pool_here) fun x11 => bnd (ret (.int 2)) fun x12 => ixM x11 x12) fun x15 => bnd (bnd (bnd (ret (.int 0)) fun d13 => bnd (ret []) fun ds14 => ret (d13 :: ds14)) mkL) fun x16 => binM .Add x15 x16) fun x29 => bnd (bnd (bnd (bnd (ret v_law_at) fun d17 => bnd (ret []) fun ds18 => ret (d17 :: ds18)) intM) fun x27 => bnd (bnd (bnd (ret (.int 1)) fun d25 => bnd (bnd (bnd (bnd (bnd (ret v_law_pool_here) fun x19 => bnd (ret (.int 2)) fun x20 => ixM x19 x20) fun d21 => bnd (ret []) fun ds22 => ret (d21 :: ds22)) lenM) fun d23 => bnd (ret []) fun ds24 => ret (d23 :: ds24)) fun ds26 => ret (d25 :: ds26)) maxM) fun x28 => binM .Mod x27 x28) fun x30 => ixM x29 x30) fun v_law_drawn => (bnd (bnd (bnd (bnd (bnd (bnd (bnd (bnd (ret v_law_drawn) fun d31 => bnd (ret []) fun ds32 => ret (d31 :: ds32)) intM) fun x33 => bnd (ret (.int 2147483647)) fun x34 => binM .Mod x33 x34) fun x37 => bnd (bnd (ret (.int 7919)) fun x35 => bnd (ret v_law_at) fun x36 => binM .Mult x35 x36) fun x38 => binM .Add x37 x38) fun x39 => bnd (ret (.int 13)) fun x40 => binM .Add x39 x40) fun x41 => bnd (ret (.int 5)) fun x42 => binM .Pow x41 x42) fun x43 => bnd (ret (.int 2147483647)) fun x44 => binM .Mod x43 x44) fun v_law_mixed => (bnd (bnd (bnd (bnd (bnd (ret v_law_mixed) fun x47 => bnd (bnd (ret (.int 104729)) fun x45 => bnd (ret v_law_at) fun x46 => binM .Mult x45 x46) fun x48 => binM .Add x47 x48) fun x49 => bnd (ret (.int 29)) fun x50 => binM .Add x49 x50) fun x51 => bnd (ret (.int 3)) fun x52 => binM .Pow x51 x52) fun x53 => bnd (ret (.int 2147483629)) fun x54 => binM .Mod x53 x54) fun v_law_mixed => (bnd (bnd (ret v_law_drawn) fun x57 => bnd (bnd (ret (.int 10)) fun x55 => bnd (ret (.int 18)) fun x56 => binM .Pow x55 x56) fun x58 => cmpB .Lt x57 x58) fun b59 => iteM b59 (bnd (bnd (bnd (ret v_law_mixed) fun x60 => bnd (ret (.int 11)) fun x61 => binM .FloorDiv x60 x61) fun x62 => bnd (ret v_law_many) fun x63 => binM .Mod x62 x63) rtM) (bnd (ret v_law_drawn) fun x64 => bnd (ret v_law_pool_here) fun x65 => bnd (ret (.int 1)) fun x66 => bnd (stM x65 x66 x64) fun _ => (ret (.nx (())))))))))) (ret (.nx (())))) fun (s6 : Unit) => (bnd (bnd (bnd (bnd (bnd (ret v_law_pool_here) fun x70 => bnd (ret (.int 1)) fun x71 => ixM x70 x71) fun d72 => bnd (ret []) fun ds73 => ret (d72 :: ds73)) intM) fun x74 => bnd (ret v_law_many) fun x75 => binM .Mod x74 x75) fun v_law_digit => (bnd (bnd (bnd (ret v_law_pool_here) fun x76 => bnd (ret (.int 1)) fun x77 => ixM x76 x77) fun x78 => bnd (ret v_law_many) fun x79 => binM .FloorDiv x78 x79) fun x80 => bnd (ret v_law_pool_here) fun x81 => bnd (ret (.int 1)) fun x82 => bnd (stM x81 x82 x80) fun _ => (bnd (ret v_law_digit) rtM))))
def m_law_take : SpX := sp2 fun v_law_pool_here v_law_many => fnM (b_law_take v_law_pool_here v_law_many)
theorem ok_law_take {P : Program} {w : World} {K : PySem.W.Frag} {mg : Str → Option Value} {base : Heap} {k : Nat} {f : Addr} {fd : FuncData} {dvs : List V} (F : FnD K "_law_take" "_law_take" s_law_take dvs f fd) (hk : 0 ≤ k) (m_int : mg "int" = none) (m_len : mg "len" = none) (m_max : mg "max" = none) : FnOk P w K mg base (L2.CX P w) (k + 1) f fd ["_law_pool_here", "_law_many"] (liftX K mg m_law_take) :=
  fn2 F sc_law_take fun cdv A outer s H E Z hr v_law_pool_here v_law_many => by
    have hu := hr.units
    exact (bf_if (e1 := (fun (s6 : Unit) => [("_law_pool_here", some v_law_pool_here), ("_law_many", some v_law_many), ("_law_at", none), ("_law_drawn", none), ("_law_mixed", none), ("_law_digit", none)])) (tv_cmp hu (ev_ix hu (ev_var .here) ev_int) ev_int) (bf_set (ev_ix hu (ev_var .here) ev_int) (fun _ => (.there (.there .here))) (fun v_law_at => (bf_sub hu (ev_bin (ev_var (.there (.there .here))) ev_int) (ev_var .here) ev_int (bf_set (ev_ix hu (ev_bin (ev_ix hu (ev_var .here) ev_int) (ev_lst (eva_cons ev_int eva_nil))) (ev_bin (ev_blT m_int bt_int intM_ok (eva_cons (ev_var (.there (.there .here))) eva_nil)) (ev_blt m_max bt_max (maxM_ok rfl) (eva_cons ev_int (eva_cons (ev_blt m_len bt_len lenM_ok (eva_cons (ev_ix hu (ev_var .here) ev_int) eva_nil)) eva_nil))))) (fun _ => (.there (.there (.there .here)))) (fun v_law_drawn => (bf_set (ev_bin (ev_bin (ev_bin (ev_bin (ev_bin (ev_blT m_int bt_int intM_ok (eva_cons (ev_var (.there (.there (.there .here)))) eva_nil)) ev_int) (ev_bin ev_int (ev_var (.there (.there .here))))) ev_int) ev_int) ev_int) (fun _ => (.there (.there (.there (.there .here))))) (fun v_law_mixed => (bf_set (ev_bin (ev_bin (ev_bin (ev_bin (ev_var (.there (.there (.there (.there .here))))) (ev_bin ev_int (ev_var (.there (.there .here))))) ev_int) ev_int) ev_int) (fun _ => (.there (.there (.there (.there .here))))) (fun v_law_mixed => (bf_ifX (tv_cmp hu (ev_var (.there (.there (.there .here)))) (ev_bin ev_int ev_int)) (bf_ret (ev_bin (ev_bin (ev_var (.there (.there (.there (.there .here))))) ev_int) (ev_var (.there .here)))) (bf_sub hu (ev_var (.there (.there (.there .here)))) (ev_var .here) ev_int (bf_nil (l := (.same (.same (.drop (.drop (.drop (.same .nil))))))))))))))))))) (bf_nil (l := (.same (.same (.same (.same (.same (.same .nil)))))))) (fun s6 => (bf_set (ev_bin (ev_blT m_int bt_int intM_ok (eva_cons (ev_ix hu (ev_var .here) ev_int) eva_nil)) (ev_var (.there .here))) (fun _ => (.there (.there (.there (.there (.there .here)))))) (fun v_law_digit => (bf_sub hu (ev_bin (ev_ix hu (ev_var .here) ev_int) (ev_var (.there .here))) (ev_var .here) ev_int (bf_ret (ev_var (.there (.there (.there (.there (.there .here))))))))))))
abbrev s_law_spoiled : Stmt := topS 20
theorem sc_law_spoiled : FnScope ["_law_pool_here", "_law_text", "_law_kind", "_law_at", "_law_sign", "_law_odd"] ["_law_pool_here", "_law_text"] (defScope s_law_spoiled) := ⟨rfl, rfl, rfl, by decide +kernel, rfl, by decide +kernel, by decide +kernel⟩
def b_law_spoiled (v_law_pool_here : D) (v_law_text : D) : M (Fl Unit Empty) := (bnd (bnd (bnd (ret v_law_pool_here) fun d3 => bnd (bnd (ret (.int 6)) fun d1 => bnd (ret []) fun ds2 => ret (d1 :: ds2)) fun ds4 => ret (d3 :: ds4)) m_law_take) fun v_law_kind => (bnd (bnd (bnd (ret v_law_pool_here) fun d11 => bnd (bnd (bnd (bnd (bnd (ret v_law_text) fun d5 => bnd (ret []) fun ds6 => ret (d5 :: ds6)) lenM) fun x7 => bnd (ret (.int 1)) fun x8 => binX .Add x7 x8) fun d9 => bnd (ret []) fun ds10 => ret (d9 :: ds10)) fun ds12 => ret (d11 :: ds12)) m_law_take) fun v_law_at => (bnd (bnd (ret (.str "0123456789-+/. a_")) fun x17 => bnd (bnd (bnd (ret v_law_pool_here) fun d15 => bnd (bnd (ret (.int 17)) fun d13 => bnd (ret []) fun ds14 => ret (d13 :: ds14)) fun ds16 => ret (d15 :: ds16)) m_law_take) fun x18 => ixM x17 x18) fun v_law_sign => (bnd (bnd (ret v_law_kind) fun x19 => bnd (ret (.int 0)) fun x20 => cmpB .Eq x19 x20) fun b21 => iteM b21 (bnd (bnd (bnd (bnd (ret v_law_text) fun x22 => bnd (ret none) fun x23 => bnd (bnd (ret v_law_at) intO) fun x24 => slX x22 x23 x24) fun x25 => bnd (ret v_law_sign) fun x26 => binX .Add x25 x26) fun x30 => bnd (bnd (ret v_law_text) fun x27 => bnd (bnd (ret v_law_at) intO) fun x28 => bnd (ret none) fun x29 => slX x27 x28 x29) fun x31 => binX .Add x30 x31) rtM) (bnd (bnd (ret v_law_kind) fun x32 => bnd (ret (.int 1)) fun x33 => cmpB .Eq x32 x33) fun b34 => iteM b34 (bnd (bnd (bnd (ret v_law_text) fun x35 => bnd (ret none) fun x36 => bnd (bnd (ret v_law_at) intO) fun x37 => slX x35 x36 x37) fun x43 => bnd (bnd (ret v_law_text) fun x40 => bnd (bnd (bnd (ret v_law_at) fun x38 => bnd (ret (.int 1)) fun x39 => binM .Add x38 x39) intO) fun x41 => bnd (ret none) fun x42 => slX x40 x41 x42) fun x44 => binX .Add x43 x44) rtM) (bnd (bnd (ret v_law_kind) fun x45 => bnd (ret (.int 2)) fun x46 => cmpB .Eq x45 x46) fun b47 => iteM b47 (bnd (bnd (bnd (bnd (ret v_law_text) fun x48 => bnd (ret none) fun x49 => bnd (bnd (ret v_law_at) intO) fun x50 => slX x48 x49 x50) fun x51 => bnd (ret v_law_sign) fun x52 => binX .Add x51 x52) fun x58 => bnd (bnd (ret v_law_text) fun x55 => bnd (bnd (bnd (ret v_law_at) fun x53 => bnd (ret (.int 1)) fun x54 => binM .Add x53 x54) intO) fun x56 => bnd (ret none) fun x57 => slX x55 x56 x57) fun x59 => binX .Add x58 x59) rtM) (bnd (bnd (ret v_law_kind) fun x60 => bnd (ret (.int 3)) fun x61 => cmpB .Eq x60 x61) fun b62 => iteM b62 (bnd (bnd (ret v_law_text) fun x79 => bnd (bnd (ret (.str "0")) fun x77 => bnd (bnd (bnd (bnd (bnd (bnd (ret v_law_pool_here) fun d65 => bnd (bnd (ret (.int 70)) fun d63 => bnd (ret []) fun ds64 => ret (d63 :: ds64)) fun ds66 => ret (d65 :: ds66)) m_law_take) fun d69 => bnd (bnd (ret (.int 5000)) fun d67 => bnd (ret []) fun ds68 => ret (d67 :: ds68)) fun ds70 => ret (d69 :: ds70)) mkL) fun x75 => bnd (bnd (bnd (bnd (ret v_law_at) fun x71 => bnd (ret (.int 0)) fun x72 => cmpM .Eq x71 x72) fun d73 => bnd (ret []) fun ds74 => ret (d73 :: ds74)) intM) fun x76 => ixM x75 x76) fun x78 => binX .Mult x77 x78) fun x80 => binX .Add x79 x80) rtM) (bnd (bnd (bnd (ret (.str "")) fun d113 => bnd (bnd (ret (.str "-")) fun d111 => bnd (bnd (ret (.str "/")) fun d109 => bnd (bnd (ret (.str "0")) fun d107 => bnd (bnd (ret (.str "-0")) fun d105 => bnd (bnd (ret (.str "00")) fun d103 => bnd (bnd (ret (.str "1/1")) fun d101 => bnd (bnd (ret (.str "2/4")) fun d99 => bnd (bnd (ret (.str "1/-2")) fun d97 => bnd (bnd (ret (.str "-1/2")) fun d95 => bnd (bnd (ret (.str "1/0")) fun d93 => bnd (bnd (ret (.str "0/1")) fun d91 => bnd (bnd (ret (.str "0/2")) fun d89 => bnd (bnd (ret (.str "1/")) fun d87 => bnd (bnd (ret (.str "/2")) fun d85 => bnd (bnd (ret (.str "1/2/3")) fun d83 => bnd (bnd (ret (.str "+1")) fun d81 => bnd (ret []) fun ds82 => ret (d81 :: ds82)) fun ds84 => ret (d83 :: ds84)) fun ds86 => ret (d85 :: ds86)) fun ds88 => ret (d87 :: ds88)) fun ds90 => ret (d89 :: ds90)) fun ds92 => ret (d91 :: ds92)) fun ds94 => ret (d93 :: ds94)) fun ds96 => ret (d95 :: ds96)) fun ds98 => ret (d97 :: ds98)) fun ds100 => ret (d99 :: ds100)) fun ds102 => ret (d101 :: ds102)) fun ds104 => ret (d103 :: ds104)) fun ds106 => ret (d105 :: ds106)) fun ds108 => ret (d107 :: ds108)) fun ds110 => ret (d109 :: ds110)) fun ds112 => ret (d111 :: ds112)) fun ds114 => ret (d113 :: ds114)) mkL) fun v_law_odd => (bnd (bnd (ret v_law_odd) fun x127 => bnd (bnd (bnd (bnd (ret (.str "1")) fun x117 => bnd (bnd (ret (.str "0")) fun x115 => bnd (ret (.int 59)) fun x116 => binX .Mult x115 x116) fun x118 => binX .Add x117 x118) fun d125 => bnd (bnd (bnd (ret (.str "1")) fun x121 => bnd (bnd (ret (.str "0")) fun x119 => bnd (ret (.int 60)) fun x120 => binX .Mult x119 x120) fun x122 => binX .Add x121 x122) fun d123 => bnd (ret []) fun ds124 => ret (d123 :: ds124)) fun ds126 => ret (d125 :: ds126)) mkL) fun x128 => binM .Add x127 x128) fun v_law_odd => (bnd (bnd (bnd (ret v_law_odd) fun x147 => bnd (bnd (bnd (ret v_law_text) fun d145 => bnd (bnd (bnd (ret (.str " ")) fun x129 => bnd (ret v_law_text) fun x130 => binX .Add x129 x130) fun d143 => bnd (bnd (bnd (ret v_law_text) fun x131 => bnd (ret (.str " ")) fun x132 => binX .Add x131 x132) fun d141 => bnd (bnd (bnd (ret v_law_text) fun x133 => bnd (ret (.str "\n")) fun x134 => binX .Add x133 x134) fun d139 => bnd (bnd (bnd (ret (.str "\n")) fun x135 => bnd (ret v_law_text) fun x136 => binX .Add x135 x136) fun d137 => bnd (ret []) fun ds138 => ret (d137 :: ds138)) fun ds140 => ret (d139 :: ds140)) fun ds142 => ret (d141 :: ds142)) fun ds144 => ret (d143 :: ds144)) fun ds146 => ret (d145 :: ds146)) mkL) fun x148 => binX .Add x147 x148) fun x153 => bnd (bnd (bnd (ret v_law_pool_here) fun d151 => bnd (bnd (ret (.int 24)) fun d149 => bnd (ret []) fun ds150 => ret (d149 :: ds150)) fun ds152 => ret (d151 :: ds152)) m_law_take) fun x154 => ixM x153 x154) rtM))))))))))
def m_law_spoiled : SpX := sp2 fun v_law_pool_here v_law_text => fnM (b_law_spoiled v_law_pool_here v_law_text)
theorem ok_law_spoiled {P : Program} {w : World} {K : PySem.W.Frag} {mg : Str → Option Value} {base : Heap} {k : Nat} {f : Addr} {fd : FuncData} {dvs : List V} (F : FnD K "_law_spoiled" "_law_spoiled" s_law_spoiled dvs f fd) (hk : 1 ≤ k) (m_int : mg "int" = none) (m_len : mg "len" = none) (h_law_take : KnowsX P w K mg base k "_law_take" 2 [] m_law_take) : FnOk P w K mg base (L2.CX P w) (k + 1) f fd ["_law_pool_here", "_law_text"] (liftX K mg m_law_spoiled) :=
  fn2 F sc_law_spoiled fun cdv A outer s H E Z hr v_law_pool_here v_law_text => by
    have hu := hr.units
    exact (bf_set (ev_call h_law_take (hr.mono (by omega)) (eva_cons (ev_var .here) (eva_cons ev_int eva_nil))) (fun _ => (.there (.there .here))) (fun v_law_kind => (bf_set (ev_call h_law_take (hr.mono (by omega)) (eva_cons (ev_var .here) (eva_cons (ev_binX (ev_blt m_len bt_len lenM_ok (eva_cons (ev_var (.there .here)) eva_nil)) ev_int) eva_nil))) (fun _ => (.there (.there (.there .here)))) (fun v_law_at => (bf_set (ev_ix hu ev_str (ev_call h_law_take (hr.mono (by omega)) (eva_cons (ev_var .here) (eva_cons ev_int eva_nil)))) (fun _ => (.there (.there (.there (.there .here))))) (fun v_law_sign => (bf_ifX (tv_cmp hu (ev_var (.there (.there .here))) ev_int) (bf_ret (ev_binX (ev_binX (ev_sliceX (ev_var (.there .here)) evo_none (evo_some (ev_var (.there (.there (.there .here)))))) (ev_var (.there (.there (.there (.there .here)))))) (ev_sliceX (ev_var (.there .here)) (evo_some (ev_var (.there (.there (.there .here))))) evo_none))) (bf_ifX (tv_cmp hu (ev_var (.there (.there .here))) ev_int) (bf_ret (ev_binX (ev_sliceX (ev_var (.there .here)) evo_none (evo_some (ev_var (.there (.there (.there .here)))))) (ev_sliceX (ev_var (.there .here)) (evo_some (ev_bin (ev_var (.there (.there (.there .here)))) ev_int)) evo_none))) (bf_ifX (tv_cmp hu (ev_var (.there (.there .here))) ev_int) (bf_ret (ev_binX (ev_binX (ev_sliceX (ev_var (.there .here)) evo_none (evo_some (ev_var (.there (.there (.there .here)))))) (ev_var (.there (.there (.there (.there .here)))))) (ev_sliceX (ev_var (.there .here)) (evo_some (ev_bin (ev_var (.there (.there (.there .here)))) ev_int)) evo_none))) (bf_ifX (tv_cmp hu (ev_var (.there (.there .here))) ev_int) (bf_ret (ev_binX (ev_var (.there .here)) (ev_binX ev_str (ev_ix hu (ev_lst (eva_cons (ev_call h_law_take (hr.mono (by omega)) (eva_cons (ev_var .here) (eva_cons ev_int eva_nil))) (eva_cons ev_int eva_nil))) (ev_blT m_int bt_int intM_ok (eva_cons (ev_cmp hu (ev_var (.there (.there (.there .here)))) ev_int) eva_nil)))))) (bf_set (ev_lst (eva_cons ev_str (eva_cons ev_str (eva_cons ev_str (eva_cons ev_str (eva_cons ev_str (eva_cons ev_str (eva_cons ev_str (eva_cons ev_str (eva_cons ev_str (eva_cons ev_str (eva_cons ev_str (eva_cons ev_str (eva_cons ev_str (eva_cons ev_str (eva_cons ev_str (eva_cons ev_str (eva_cons ev_str eva_nil)))))))))))))))))) (fun _ => (.there (.there (.there (.there (.there .here)))))) (fun v_law_odd => (bf_set (ev_bin (ev_var (.there (.there (.there (.there (.there .here)))))) (ev_lst (eva_cons (ev_binX ev_str (ev_binX ev_str ev_int)) (eva_cons (ev_binX ev_str (ev_binX ev_str ev_int)) eva_nil)))) (fun _ => (.there (.there (.there (.there (.there .here)))))) (fun v_law_odd => (bf_ret (ev_ix hu (ev_binX (ev_var (.there (.there (.there (.there (.there .here)))))) (ev_lst (eva_cons (ev_var (.there .here)) (eva_cons (ev_binX ev_str (ev_var (.there .here))) (eva_cons (ev_binX (ev_var (.there .here)) ev_str) (eva_cons (ev_binX (ev_var (.there .here)) ev_str) (eva_cons (ev_binX ev_str (ev_var (.there .here))) eva_nil))))))) (ev_call h_law_take (hr.mono (by omega)) (eva_cons (ev_var .here) (eva_cons ev_int eva_nil)))))))))))))))))))
abbrev s_law_plain : Stmt := topS 17
theorem sc_law_plain : FnScope ["_law_word", "_law_figures", "_law_sign"] ["_law_word"] (defScope s_law_plain) := ⟨rfl, rfl, rfl, by decide +kernel, rfl, by decide +kernel, by decide +kernel⟩
def b_law_plain (v_law_word : D) : M (Fl Unit Empty) := (bnd (ret v_law_word) fun v_law_figures => (seqF (bnd (bnd (bnd (ret v_law_word) fun x1 => bnd (ret none) fun x2 => bnd (bnd (ret (.int 1)) intO) fun x3 => slX x1 x2 x3) fun x4 => bnd (ret (.str "-")) fun x5 => cmpB .Eq x4 x5) fun b6 => iteM b6 (bnd (bnd (ret v_law_word) fun x8 => bnd (bnd (ret (.int 1)) intO) fun x9 => bnd (ret none) fun x10 => slX x8 x9 x10) fun v_law_figures => (ret (.nx v_law_figures))) (ret (.nx v_law_figures))) fun (s7 : D) => (bnd (bnd (bnd (ret s7) fun x17 => bnd (ret (.str "")) fun x18 => cmpB .Eq x17 x18) (orB (bnd (bnd (bnd (bnd (bnd (bnd (ret s7) strW) fun ds14 => bnd (compM (fun v_law_sign_11 => bnd (bnd (ret v_law_sign_11) fun x12 => bnd (ret (.str "0123456789")) fun x13 => inXM x12 x13) someM) ds14 []) lsM) fun d15 => bnd (ret []) fun ds16 => ret (d15 :: ds16)) allM) truB) notB))) fun b19 => iteM b19 (bnd (ret (.bl false)) rtM) (bnd (bnd (bnd (ret v_law_word) fun x24 => bnd (ret (.str "0")) fun x25 => cmpM .Eq x24 x25) (orM (bnd (bnd (ret s7) fun x20 => bnd (ret (.int 0)) fun x21 => ixM x20 x21) fun x22 => bnd (ret (.str "0")) fun x23 => cmpM .NotEq x22 x23))) rtM))))
def m_law_plain : SpX := sp1 fun v_law_word => fnM (b_law_plain v_law_word)
theorem ok_law_plain {P : Program} {w : World} {K : PySem.W.Frag} {mg : Str → Option Value} {base : Heap} {k : Nat} {f : Addr} {fd : FuncData} {dvs : List V} (F : FnD K "_law_plain" "_law_plain" s_law_plain dvs f fd) (hk : 0 ≤ k) (m_all : mg "all" = none) : FnOk P w K mg base (L2.CX P w) (k + 1) f fd ["_law_word"] (liftX K mg m_law_plain) :=
  fn1 F sc_law_plain fun cdv A outer s H E Z hr v_law_word => by
    have hu := hr.units
    exact (bf_set (ev_var .here) (fun _ => (.there .here)) (fun v_law_figures => (bf_if (e1 := (fun (s7 : D) => [("_law_word", some v_law_word), ("_law_figures", some s7), ("_law_sign", none)])) (tv_cmp hu (ev_sliceX (ev_var .here) evo_none (evo_some ev_int)) ev_str) (bf_set (ev_sliceX (ev_var .here) (evo_some ev_int) evo_none) (fun _ => (.there .here)) (fun v_law_figures => (bf_nil (l := (.same (.same (.same .nil))))))) (bf_nil (l := (.same (.same (.same .nil))))) (fun s7 => (bf_ifX (tv_w (wv_or (tv_cmp hu (ev_var (.there .here)) ev_str) (wv_or1 (tv_not (tv_val (ev_blt m_all bt_all (allM_ok rfl) (eva_cons (ev_lc (.there (.there .here)) (iv_strW (ev_var (.there .here))) (cv0 (fun _ => (.there (.there .here))) (fun v_law_sign_11 s0 H0 C0 cl0 fp0 => (ev_inX (ev_var (.there (.there .here))) ev_str)))) eva_nil))))))) (bf_ret ev_bl) (bf_ret (ev_or (ev_cmp hu (ev_var .here) ev_str) (ev_one (ev_cmp hu (ev_ix hu (ev_var (.there .here)) ev_int) ev_str)))))))))
abbrev s_law_due : Stmt := topS 18
theorem sc_law_due : FnScope ["_law_text", "_law_parts", "_law_piece", "_law_up", "_law_down"] ["_law_text"] (defScope s_law_due) := ⟨rfl, rfl, rfl, by decide +kernel, rfl, by decide +kernel, by decide +kernel⟩
def b_law_due (v_law_text : D) : M (Fl Unit Empty) := (bnd (bnd (ret v_law_text) fun u3 => bnd (chkS u3) fun _ => bnd (bnd (ret (.str "/")) fun d1 => bnd (ret []) fun ds2 => ret (d1 :: ds2)) (splX u3)) fun v_law_parts => (bnd (bnd (bnd (bnd (bnd (ret v_law_text) fun d14 => bnd (ret []) fun ds15 => ret (d14 :: ds15)) lenM) fun x16 => bnd (ret (.int 60)) fun x17 => cmpB .Gt x16 x17) (orB (bnd (bnd (bnd (bnd (ret v_law_parts) fun d10 => bnd (ret []) fun ds11 => ret (d10 :: ds11)) lenM) fun x12 => bnd (ret (.int 2)) fun x13 => cmpB .Gt x12 x13) (orB (bnd (bnd (bnd (bnd (bnd (bnd (ret v_law_parts) seqM) fun ds7 => bnd (compM (fun v_law_piece_4 => bnd (bnd (bnd (ret v_law_piece_4) fun d5 => bnd (ret []) fun ds6 => ret (d5 :: ds6)) m_law_plain) someM) ds7 []) lsM) fun d8 => bnd (ret []) fun ds9 => ret (d8 :: ds9)) allM) truB) notB))))) fun b18 => iteM b18 (bnd (bnd (ret []) mkL) rtM) (bnd (bnd (bnd (bnd (ret v_law_parts) fun d19 => bnd (ret []) fun ds20 => ret (d19 :: ds20)) lenM) fun x21 => bnd (ret (.int 1)) fun x22 => cmpB .Eq x21 x22) fun b23 => iteM b23 (bnd (bnd (bnd (bnd (bnd (bnd (bnd (ret v_law_text) fun d24 => bnd (ret []) fun ds25 => ret (d24 :: ds25)) intX) fun d28 => bnd (bnd (ret (.int 1)) fun d26 => bnd (ret []) fun ds27 => ret (d26 :: ds27)) fun ds29 => ret (d28 :: ds29)) mkT) fun d30 => bnd (ret []) fun ds31 => ret (d30 :: ds31)) mkL) rtM) (bnd (bnd (bnd (bnd (ret v_law_parts) fun x32 => bnd (ret (.int 0)) fun x33 => ixM x32 x33) fun d34 => bnd (ret []) fun ds35 => ret (d34 :: ds35)) intX) fun v_law_up => (bnd (bnd (bnd (bnd (ret v_law_parts) fun x36 => bnd (ret (.int 1)) fun x37 => ixM x36 x37) fun d38 => bnd (ret []) fun ds39 => ret (d38 :: ds39)) intX) fun v_law_down => (bnd (bnd (bnd (ret v_law_down) fun x48 => bnd (ret (.int 2)) fun x49 => cmpB .Lt x48 x49) (orB (bnd (bnd (bnd (bnd (bnd (ret v_law_up) fun d42 => bnd (bnd (ret v_law_down) fun d40 => bnd (ret []) fun ds41 => ret (d40 :: ds41)) fun ds43 => ret (d42 :: ds43)) mkL) fun d44 => bnd (ret []) fun ds45 => ret (d44 :: ds45)) m_law_divisor) fun x46 => bnd (ret (.int 1)) fun x47 => cmpB .NotEq x46 x47))) fun b50 => iteM b50 (bnd (bnd (ret []) mkL) rtM) (bnd (bnd (bnd (bnd (bnd (ret v_law_up) fun d53 => bnd (bnd (ret v_law_down) fun d51 => bnd (ret []) fun ds52 => ret (d51 :: ds52)) fun ds54 => ret (d53 :: ds54)) mkT) fun d55 => bnd (ret []) fun ds56 => ret (d55 :: ds56)) mkL) rtM)))))))
def m_law_due : SpX := sp1 fun v_law_text => fnM (b_law_due v_law_text)
theorem ok_law_due {P : Program} {w : World} {K : PySem.W.Frag} {mg : Str → Option Value} {base : Heap} {k : Nat} {f : Addr} {fd : FuncData} {dvs : List V} (F : FnD K "_law_due" "_law_due" s_law_due dvs f fd) (hk : 1 ≤ k) (m_all : mg "all" = none) (m_int : mg "int" = none) (m_len : mg "len" = none) (h_law_divisor : KnowsX P w K mg base k "_law_divisor" 1 [] m_law_divisor) (h_law_plain : KnowsX P w K mg base k "_law_plain" 1 [] m_law_plain) : FnOk P w K mg base (L2.CX P w) (k + 1) f fd ["_law_text"] (liftX K mg m_law_due) :=
  fn1 F sc_law_due fun cdv A outer s H E Z hr v_law_text => by
    have hu := hr.units
    exact (bf_set (ev_split (ev_var .here) (eva_cons ev_str eva_nil)) (fun _ => (.there .here)) (fun v_law_parts => (bf_ifX (tv_w (wv_or (tv_cmp hu (ev_blt m_len bt_len lenM_ok (eva_cons (ev_var .here) eva_nil)) ev_int) (wv_or (tv_cmp hu (ev_blt m_len bt_len lenM_ok (eva_cons (ev_var (.there .here)) eva_nil)) ev_int) (wv_or1 (tv_not (tv_val (ev_blt m_all bt_all (allM_ok rfl) (eva_cons (ev_lc (.there (.there .here)) (iv_seq (ev_var (.there .here))) (cv0 (fun _ => (.there (.there .here))) (fun v_law_piece_4 s0 H0 C0 cl0 fp0 => (ev_call h_law_plain (hr.mono (by omega)) (eva_cons (ev_var (.there (.there .here))) eva_nil))))) eva_nil)))))))) (bf_ret (ev_lst eva_nil)) (bf_ifX (tv_cmp hu (ev_blt m_len bt_len lenM_ok (eva_cons (ev_var (.there .here)) eva_nil)) ev_int) (bf_ret (ev_lst (eva_cons (ev_tup (eva_cons (ev_blT m_int bt_int intX_ok (eva_cons (ev_var .here) eva_nil)) (eva_cons ev_int eva_nil))) eva_nil))) (bf_set (ev_blT m_int bt_int intX_ok (eva_cons (ev_ix hu (ev_var (.there .here)) ev_int) eva_nil)) (fun _ => (.there (.there (.there .here)))) (fun v_law_up => (bf_set (ev_blT m_int bt_int intX_ok (eva_cons (ev_ix hu (ev_var (.there .here)) ev_int) eva_nil)) (fun _ => (.there (.there (.there (.there .here))))) (fun v_law_down => (bf_ifX (tv_w (wv_or (tv_cmp hu (ev_var (.there (.there (.there (.there .here))))) ev_int) (wv_or1 (tv_cmp hu (ev_call h_law_divisor (hr.mono (by omega)) (eva_cons (ev_lst (eva_cons (ev_var (.there (.there (.there .here)))) (eva_cons (ev_var (.there (.there (.there (.there .here))))) eva_nil))) eva_nil)) ev_int)))) (bf_ret (ev_lst eva_nil)) (bf_ret (ev_lst (eva_cons (ev_tup (eva_cons (ev_var (.there (.there (.there .here)))) (eva_cons (ev_var (.there (.there (.there (.there .here))))) eva_nil))) eva_nil))))))))))))
abbrev s_law : Stmt := topS 21
theorem sc_law : FnScope ["_law_script", "_law_pool_here", "_law_size", "_law_up", "_law_one", "_law_due_here", "_law_text", "_law_k", "_law_says"] ["_law_script"] (defScope s_law) := ⟨rfl, rfl, rfl, by decide +kernel, rfl, by decide +kernel, by decide +kernel⟩
def b_law (v_law_script : D) : M (Fl Unit Empty) := (bnd (bnd (bnd (ret v_law_script) fun d1 => bnd (ret []) fun ds2 => ret (d1 :: ds2)) m_law_pool) fun v_law_pool_here => (bnd (bnd (bnd (bnd (ret (.int 9)) fun d7 => bnd (bnd (bnd (ret (.int 10)) fun x3 => bnd (ret (.int 29)) fun x4 => binM .Pow x3 x4) fun d5 => bnd (ret []) fun ds6 => ret (d5 :: ds6)) fun ds8 => ret (d7 :: ds8)) mkL) fun x13 => bnd (bnd (bnd (ret v_law_pool_here) fun d11 => bnd (bnd (ret (.int 2)) fun d9 => bnd (ret []) fun ds10 => ret (d9 :: ds10)) fun ds12 => ret (d11 :: ds12)) m_law_take) fun x14 => ixM x13 x14) fun v_law_size => (bnd (bnd (bnd (bnd (ret v_law_pool_here) fun d21 => bnd (bnd (bnd (bnd (ret (.int 2)) fun x15 => bnd (ret v_law_size) fun x16 => binM .Mult x15 x16) fun x17 => bnd (ret (.int 1)) fun x18 => binM .Add x17 x18) fun d19 => bnd (ret []) fun ds20 => ret (d19 :: ds20)) fun ds22 => ret (d21 :: ds22)) m_law_take) fun x23 => bnd (ret v_law_size) fun x24 => binM .Sub x23 x24) fun v_law_up => (bnd (bnd (bnd (ret v_law_up) fun d45 => bnd (bnd (bnd (ret (.int 1)) fun x41 => bnd (bnd (bnd (ret v_law_pool_here) fun d39 => bnd (bnd (bnd (bnd (bnd (ret (.int 9)) fun d29 => bnd (bnd (bnd (ret (.int 10)) fun x25 => bnd (ret (.int 20)) fun x26 => binM .Pow x25 x26) fun d27 => bnd (ret []) fun ds28 => ret (d27 :: ds28)) fun ds30 => ret (d29 :: ds30)) mkL) fun x35 => bnd (bnd (bnd (ret v_law_pool_here) fun d33 => bnd (bnd (ret (.int 2)) fun d31 => bnd (ret []) fun ds32 => ret (d31 :: ds32)) fun ds34 => ret (d33 :: ds34)) m_law_take) fun x36 => ixM x35 x36) fun d37 => bnd (ret []) fun ds38 => ret (d37 :: ds38)) fun ds40 => ret (d39 :: ds40)) m_law_take) fun x42 => binM .Add x41 x42) fun d43 => bnd (ret []) fun ds44 => ret (d43 :: ds44)) fun ds46 => ret (d45 :: ds46)) m_law_ratio) fun v_law_one => (bnd (bnd (bnd (bnd (ret v_law_one) fun x47 => bnd (ret (.int 0)) fun x48 => ixM x47 x48) fun d49 => bnd (ret []) fun ds50 => ret (d49 :: ds50)) strX) fun v_law_due_here => (seqF (bnd (bnd (bnd (ret v_law_one) fun x51 => bnd (ret (.int 1)) fun x52 => ixM x51 x52) fun x53 => bnd (ret (.int 1)) fun x54 => cmpB .NotEq x53 x54) fun b55 => iteM b55 (bnd (bnd (bnd (ret v_law_due_here) fun x57 => bnd (ret (.str "/")) fun x58 => binX .Add x57 x58) fun x63 => bnd (bnd (bnd (bnd (ret v_law_one) fun x59 => bnd (ret (.int 1)) fun x60 => ixM x59 x60) fun d61 => bnd (ret []) fun ds62 => ret (d61 :: ds62)) strX) fun x64 => binX .Add x63 x64) fun v_law_due_here => (ret (.nx v_law_due_here))) (ret (.nx v_law_due_here))) fun (s56 : D) => (bnd (bnd (bnd (bnd (bnd (ret v_law_one) fun d71 => bnd (ret []) fun ds72 => ret (d71 :: ds72)) m_ratio_text) fun x73 => bnd (ret s56) fun x74 => cmpB .NotEq x73 x74) (orB (bnd (bnd (bnd (ret s56) fun d65 => bnd (ret []) fun ds66 => ret (d65 :: ds66)) m_law_read) fun x69 => bnd (bnd (bnd (ret v_law_one) fun d67 => bnd (ret []) fun ds68 => ret (d67 :: ds68)) mkL) fun x70 => cmpB .NotEq x69 x70))) fun b75 => iteM b75 (bnd (ret (.bl false)) rtM) (bnd (ret s56) fun v_law_text => (bnd (bnd (bnd (bnd (ret v_law_pool_here) fun d79 => bnd (bnd (ret (.int 3)) fun d77 => bnd (ret []) fun ds78 => ret (d77 :: ds78)) fun ds80 => ret (d79 :: ds80)) m_law_take) rngM) fun ds81 => seqF (forF (fun v_law_k (s76 : D) => (bnd (bnd (bnd (ret v_law_pool_here) fun d84 => bnd (bnd (ret s76) fun d82 => bnd (ret []) fun ds83 => ret (d82 :: ds83)) fun ds85 => ret (d84 :: ds85)) m_law_spoiled) fun v_law_text => (ret (.nx v_law_text)))) ds81 v_law_text) fun (s76 : D) => (bnd (bnd (bnd (ret s76) fun d86 => bnd (ret []) fun ds87 => ret (d86 :: ds87)) m_law_read) fun v_law_says => (bnd (bnd (bnd (ret v_law_says) fun x98 => bnd (bnd (bnd (ret s76) fun d96 => bnd (ret []) fun ds97 => ret (d96 :: ds97)) m_law_due) fun x99 => cmpM .Eq x98 x99) (andM (bnd (bnd (ret v_law_says) fun x94 => bnd (bnd (ret []) mkL) fun x95 => cmpM .Eq x94 x95) (orM (bnd (bnd (bnd (bnd (ret v_law_says) fun x88 => bnd (ret (.int 0)) fun x89 => ixM x88 x89) fun d90 => bnd (ret []) fun ds91 => ret (d90 :: ds91)) m_ratio_text) fun x92 => bnd (ret s76) fun x93 => cmpM .Eq x92 x93))))) rtM)))))))))))
def m_law : SpX := sp1 fun v_law_script => fnM (b_law v_law_script)
theorem ok_law {P : Program} {w : World} {K : PySem.W.Frag} {mg : Str → Option Value} {base : Heap} {k : Nat} {f : Addr} {fd : FuncData} (F : Fun K "law" "law" s_law f fd) (hk : 4 ≤ k) (m_range : mg "range" = none) (m_str : mg "str" = none) (h_law_due : KnowsX P w K mg base k "_law_due" 1 [] m_law_due) (h_law_pool : KnowsX P w K mg base k "_law_pool" 1 [] m_law_pool) (h_law_ratio : KnowsX P w K mg base k "_law_ratio" 2 [] m_law_ratio) (h_law_read : KnowsX P w K mg base k "_law_read" 1 [] m_law_read) (h_law_spoiled : KnowsX P w K mg base k "_law_spoiled" 2 [] m_law_spoiled) (h_law_take : KnowsX P w K mg base k "_law_take" 2 [] m_law_take) (h_ratio_text : KnowsX P w K mg base k "ratio_text" 1 [] m_ratio_text) : FnOk P w K mg base CX0 (k + 1) f fd ["_law_script"] (lift K fun ds m R => m_law ds m R NoX) :=
  fn_law F sc_law fun cdv A outer s H hr v_law_script => by
    have hu := hr.units
    exact (bf_set (ev_call h_law_pool (hr.mono (by omega)) (eva_cons (ev_var .here) eva_nil)) (fun _ => (.there .here)) (fun v_law_pool_here => (bf_set (ev_ix hu (ev_lst (eva_cons ev_int (eva_cons (ev_bin ev_int ev_int) eva_nil))) (ev_call h_law_take (hr.mono (by omega)) (eva_cons (ev_var (.there .here)) (eva_cons ev_int eva_nil)))) (fun _ => (.there (.there .here))) (fun v_law_size => (bf_set (ev_bin (ev_call h_law_take (hr.mono (by omega)) (eva_cons (ev_var (.there .here)) (eva_cons (ev_bin (ev_bin ev_int (ev_var (.there (.there .here)))) ev_int) eva_nil))) (ev_var (.there (.there .here)))) (fun _ => (.there (.there (.there .here)))) (fun v_law_up => (bf_set (ev_call h_law_ratio (hr.mono (by omega)) (eva_cons (ev_var (.there (.there (.there .here)))) (eva_cons (ev_bin ev_int (ev_call h_law_take (hr.mono (by omega)) (eva_cons (ev_var (.there .here)) (eva_cons (ev_ix hu (ev_lst (eva_cons ev_int (eva_cons (ev_bin ev_int ev_int) eva_nil))) (ev_call h_law_take (hr.mono (by omega)) (eva_cons (ev_var (.there .here)) (eva_cons ev_int eva_nil)))) eva_nil)))) eva_nil))) (fun _ => (.there (.there (.there (.there .here))))) (fun v_law_one => (bf_set (ev_blT m_str bt_str strX_ok (eva_cons (ev_ix hu (ev_var (.there (.there (.there (.there .here))))) ev_int) eva_nil)) (fun _ => (.there (.there (.there (.there (.there .here)))))) (fun v_law_due_here => (bf_if (e1 := (fun (s56 : D) => [("_law_script", some v_law_script), ("_law_pool_here", some v_law_pool_here), ("_law_size", some v_law_size), ("_law_up", some v_law_up), ("_law_one", some v_law_one), ("_law_due_here", some s56), ("_law_text", none), ("_law_k", none), ("_law_says", none)])) (tv_cmp hu (ev_ix hu (ev_var (.there (.there (.there (.there .here))))) ev_int) ev_int) (bf_set (ev_binX (ev_binX (ev_var (.there (.there (.there (.there (.there .here)))))) ev_str) (ev_blT m_str bt_str strX_ok (eva_cons (ev_ix hu (ev_var (.there (.there (.there (.there .here))))) ev_int) eva_nil))) (fun _ => (.there (.there (.there (.there (.there .here)))))) (fun v_law_due_here => (bf_nil (l := (.same (.same (.same (.same (.same (.same (.same (.same (.same .nil))))))))))))) (bf_nil (l := (.same (.same (.same (.same (.same (.same (.same (.same (.same .nil))))))))))) (fun s56 => (bf_ifX (tv_w (wv_or (tv_cmp hu (ev_call h_ratio_text (hr.mono (by omega)) (eva_cons (ev_var (.there (.there (.there (.there .here))))) eva_nil)) (ev_var (.there (.there (.there (.there (.there .here))))))) (wv_or1 (tv_cmp hu (ev_call h_law_read (hr.mono (by omega)) (eva_cons (ev_var (.there (.there (.there (.there (.there .here)))))) eva_nil)) (ev_lst (eva_cons (ev_var (.there (.there (.there (.there .here))))) eva_nil)))))) (bf_ret ev_bl) (bf_set (ev_var (.there (.there (.there (.there (.there .here)))))) (fun _ => (.there (.there (.there (.there (.there (.there .here))))))) (fun v_law_text => (bf_for (e1 := (fun (s76 : D) => [("_law_script", some v_law_script), ("_law_pool_here", some v_law_pool_here), ("_law_size", some v_law_size), ("_law_up", some v_law_up), ("_law_one", some v_law_one), ("_law_due_here", some s56), ("_law_text", some s76), ("_law_k", none), ("_law_says", none)])) (iv_range1 m_range (ev_call h_law_take (hr.mono (by omega)) (eva_cons (ev_var (.there .here)) (eva_cons ev_int eva_nil)))) (.same (.same (.same (.same (.same (.same (.same (.same (.same .nil))))))))) (fun v_law_k s76 => bg_name (.there (.there (.there (.there (.there (.there (.there .here))))))) (bf_set (ev_call h_law_spoiled (hr.mono (by omega)) (eva_cons (ev_var (.there .here)) (eva_cons (ev_var (.there (.there (.there (.there (.there (.there .here))))))) eva_nil))) (fun _ => (.there (.there (.there (.there (.there (.there .here))))))) (fun v_law_text => (bf_nil (l := (.same (.same (.same (.same (.same (.same (.same (.drop (.same .nil)))))))))))))) (fun s76 => (bf_set (ev_call h_law_read (hr.mono (by omega)) (eva_cons (ev_var (.there (.there (.there (.there (.there (.there .here))))))) eva_nil)) (fun _ => (.there (.there (.there (.there (.there (.there (.there (.there .here))))))))) (fun v_law_says => (bf_ret (ev_and (ev_cmp hu (ev_var (.there (.there (.there (.there (.there (.there (.there (.there .here))))))))) (ev_call h_law_due (hr.mono (by omega)) (eva_cons (ev_var (.there (.there (.there (.there (.there (.there .here))))))) eva_nil))) (ev_one (ev_or (ev_cmp hu (ev_var (.there (.there (.there (.there (.there (.there (.there (.there .here))))))))) (ev_lst eva_nil)) (ev_one (ev_cmp hu (ev_call h_ratio_text (hr.mono (by omega)) (eva_cons (ev_ix hu (ev_var (.there (.there (.there (.there (.there (.there (.there (.there .here))))))))) ev_int) eva_nil)) (ev_var (.there (.there (.there (.there (.there (.there .here))))))))))))))))))))))))))))))))
end K12


namespace K12
open PySem PySem.Spec PyProof.Rows L2 DL
local macro_rules | `(tactic| tm_at "bd") => `(tactic| (first
  | (with_reducible assumption)
  | ((with_reducible show Bd _ (_ * _)); refine Bd.mulR (by tm_at "bd") (by tm_at "bd"))
  | ((with_reducible show Bd _ (_ + _)); refine Bd.addR (by tm_at "bd") (by tm_at "bd"))
  | ((with_reducible show Bd _ (_ - _)); refine Bd.subR (by tm_at "bd") (by tm_at "bd"))
  | ((with_reducible show Bd _ (-_)); refine Bd.negR (by tm_at "bd"))
  | (exact Bd.lit _)
  | (exact Bd.one)
  | assumption))
local macro_rules | `(tactic| tm_at "mul") => `(tactic| (exact Bd.mul (by tm_at "bd") (by tm_at "bd") (by decide)))
local macro_rules | `(tactic| tm_at "st") => `(tactic| ((with_reducible refine ixL_i atI_2 ?_)))
local macro_rules | `(tactic| tm_at "st") => `(tactic| ((with_reducible refine ixL_i atI_1 ?_)))
local macro_rules | `(tactic| tm_at "st") => `(tactic| ((with_reducible refine ixL_i atI_0 ?_)))
local macro_rules | `(tactic| tm_at "st") => `(tactic| ((with_reducible refine ixT_i atI_2 ?_)))
local macro_rules | `(tactic| tm_at "st") => `(tactic| ((with_reducible refine ixT_i atI_1 ?_)))
local macro_rules | `(tactic| tm_at "st") => `(tactic| ((with_reducible refine ixT_i atI_0 ?_)))
local macro_rules | `(tactic| tm_at "st") => `(tactic| (with_reducible refine mkL_i (by first | decide | (simp <;> omega)) ?_))
local macro_rules | `(tactic| tm_at "st") => `(tactic| (with_reducible refine mkT_i (by first | decide | (simp <;> omega)) ?_))
local macro_rules | `(tactic| tm_at "st") => `(tactic| ((with_reducible show binM Operator.Pow (D.int _) (D.int _) _ _ _); refine pow_i (by refine ⟨?_, ?_, ?_⟩ <;> omega) ?_))
local macro_rules | `(tactic| tm_at "st") => `(tactic| ((with_reducible show binM Operator.Mod (D.int _) (D.int _) _ _ _); refine mod_i (by first | assumption | omega | decide) ?_))
local macro_rules | `(tactic| tm_at "st") => `(tactic| ((with_reducible show binM Operator.Mult (D.int _) (D.int _) _ _ _); refine mul_i (by tm_at "mul") ?_))
local macro_rules | `(tactic| tm_at "st") => `(tactic| (with_reducible refine chkO_o (by decide) ?_))
local macro_rules | `(tactic| tm_at "st") => `(tactic| (with_reducible refine att_o rfl ?_))
local macro_rules | `(tactic| tm_at "st") => `(tactic| (with_reducible refine isiO_o2 (by decide) (by decide) (by decide) ?_))
local macro_rules | `(tactic| tm_at "st") => `(tactic| (with_reducible refine isiO_o (by decide) (by decide) ?_))
local macro_rules | `(tactic| tm_at "st") => `(tactic| (with_reducible refine isiO_d2 (r := false) (by decide) (by decide) (by decide) ?_))
local macro_rules | `(tactic| tm_at "st") => `(tactic| (with_reducible refine isiO_dr (r := false) (by decide) (by decide) ?_))
local macro_rules | `(tactic| tm_at "st") => `(tactic| (with_reducible refine isiO_dr (r := true) (by decide) (by decide) ?_))
local macro_rules | `(tactic| tm_at "st") => `(tactic| (with_reducible refine isiO_2 (r := false) rfl (by decide) (by decide) (by decide) ?_))
local macro_rules | `(tactic| tm_at "st") => `(tactic| (with_reducible refine isiO_2 (r := true) rfl (by decide) (by decide) (by decide) ?_))
local macro_rules | `(tactic| tm_at "st") => `(tactic| (with_reducible refine isiO_pr (r := false) rfl (by decide) (by decide) ?_))
local macro_rules | `(tactic| tm_at "st") => `(tactic| (with_reducible refine isiO_pr (r := true) rfl (by decide) (by decide) ?_))
local macro_rules | `(tactic| tm_at "st") => `(tactic| (with_reducible refine ixO_o ?_))
local macro_rules | `(tactic| tm_at "st") => `(tactic| (with_reducible refine tryN_i ?_))
local macro_rules | `(tactic| tm_at "st") => `(tactic| (with_reducible refine pairM_i ?_))
local macro_rules | `(tactic| tm_at "st") => `(tactic| (with_reducible refine dicG_t ?_))
local macro_rules | `(tactic| tm_at "st") => `(tactic| (with_reducible refine dicG_f ?_))
local macro_rules | `(tactic| tm_at "st") => `(tactic| (with_reducible refine seq_D ?_))
local macro_rules | `(tactic| tm_at "st") => `(tactic| (with_reducible refine len_D ?_))
local macro_rules | `(tactic| tm_at "st") => `(tactic| (with_reducible refine star_T ?_))
local macro_rules | `(tactic| tm_at "st") => `(tactic| (with_reducible refine star_L ?_))
local macro_rules | `(tactic| tm_at "st") => `(tactic| (with_reducible refine sum_L ?_))
local macro_rules | `(tactic| tm_at "st") => `(tactic| (with_reducible refine rai_i ?_))
local macro_rules | `(tactic| tm_at "st") => `(tactic| (with_reducible refine un2_i ?_))
local macro_rules | `(tactic| tm_at "st") => `(tactic| (with_reducible refine ut2_i ?_))
local macro_rules | `(tactic| tm_at "st") => `(tactic| (with_reducible refine someM_i ?_))
local macro_rules | `(tactic| tm_at "st") => `(tactic| (with_reducible refine lsM_i ?_))
local macro_rules | `(tactic| tm_at "st") => `(tactic| (with_reducible refine zip_T ?_))
local macro_rules | `(tactic| tm_at "st") => `(tactic| (with_reducible refine zip_L ?_))
local macro_rules | `(tactic| tm_at "st") => `(tactic| (with_reducible refine seq_L ?_))
local macro_rules | `(tactic| tm_at "st") => `(tactic| (with_reducible refine seq_T ?_))
local macro_rules | `(tactic| tm_at "st") => `(tactic| (with_reducible refine tuple_L ?_))
local macro_rules | `(tactic| tm_at "st") => `(tactic| (with_reducible refine tuple_T ?_))
local macro_rules | `(tactic| tm_at "st") => `(tactic| (with_reducible refine list_K ?_))
local macro_rules | `(tactic| tm_at "st") => `(tactic| (with_reducible refine list_L ?_))
local macro_rules | `(tactic| tm_at "st") => `(tactic| (with_reducible refine list_T ?_))
local macro_rules | `(tactic| tm_at "st") => `(tactic| (with_reducible refine len_L ?_))
local macro_rules | `(tactic| tm_at "st") => `(tactic| (with_reducible refine len_T ?_))
local macro_rules | `(tactic| tm_at "st") => `(tactic| (with_reducible refine min_i ?_))
local macro_rules | `(tactic| tm_at "st") => `(tactic| (with_reducible refine max_i ?_))
local macro_rules | `(tactic| tm_at "st") => `(tactic| (with_reducible refine int_b ?_))
local macro_rules | `(tactic| tm_at "st") => `(tactic| (with_reducible refine int_i ?_))
local macro_rules | `(tactic| tm_at "st") => `(tactic| (with_reducible refine abs_i ?_))
local macro_rules | `(tactic| tm_at "st") => `(tactic| (with_reducible refine notM_i ?_))
local macro_rules | `(tactic| tm_at "st") => `(tactic| (with_reducible refine notM_f ?_))
local macro_rules | `(tactic| tm_at "st") => `(tactic| (with_reducible refine notM_t ?_))
local macro_rules | `(tactic| tm_at "st") => `(tactic| (with_reducible refine andM_fi ?_))
local macro_rules | `(tactic| tm_at "st") => `(tactic| (with_reducible refine andM_ti ?_))
local macro_rules | `(tactic| tm_at "st") => `(tactic| (with_reducible refine orB_f ?_))
local macro_rules | `(tactic| tm_at "st") => `(tactic| (with_reducible refine orB_t ?_))
local macro_rules | `(tactic| tm_at "st") => `(tactic| (with_reducible refine andB_f ?_))
local macro_rules | `(tactic| tm_at "st") => `(tactic| (with_reducible refine andB_t ?_))
local macro_rules | `(tactic| tm_at "st") => `(tactic| (with_reducible refine notB_i ?_))
local macro_rules | `(tactic| tm_at "st") => `(tactic| (with_reducible refine notB_f ?_))
local macro_rules | `(tactic| tm_at "st") => `(tactic| (with_reducible refine notB_t ?_))
local macro_rules | `(tactic| tm_at "st") => `(tactic| (with_reducible refine tru_tup ?_))
local macro_rules | `(tactic| tm_at "st") => `(tactic| (with_reducible refine tru_lst ?_))
local macro_rules | `(tactic| tm_at "st") => `(tactic| (with_reducible refine tru_bl ?_))
local macro_rules | `(tactic| tm_at "st") => `(tactic| (with_reducible refine tru_int ?_))
local macro_rules | `(tactic| tm_at "st") => `(tactic| (with_reducible refine cmpM_i ?_))
local macro_rules | `(tactic| tm_at "st") => `(tactic| (with_reducible refine isnN_i ?_))
local macro_rules | `(tactic| tm_at "st") => `(tactic| (with_reducible refine isN_i ?_))
local macro_rules | `(tactic| tm_at "st") => `(tactic| (with_reducible refine ge_i ?_))
local macro_rules | `(tactic| tm_at "st") => `(tactic| (with_reducible refine gt_i ?_))
local macro_rules | `(tactic| tm_at "st") => `(tactic| (with_reducible refine le_i ?_))
local macro_rules | `(tactic| tm_at "st") => `(tactic| (with_reducible refine lt_i ?_))
local macro_rules | `(tactic| tm_at "st") => `(tactic| (with_reducible refine ne_i ?_))
local macro_rules | `(tactic| tm_at "st") => `(tactic| (with_reducible refine eq_i ?_))
local macro_rules | `(tactic| tm_at "st") => `(tactic| (with_reducible refine iadd_i ?_))
local macro_rules | `(tactic| tm_at "st") => `(tactic| (with_reducible refine neg_i ?_))
local macro_rules | `(tactic| tm_at "st") => `(tactic| (with_reducible refine sub_i ?_))
local macro_rules | `(tactic| tm_at "st") => `(tactic| (with_reducible refine add_i ?_))
local macro_rules | `(tactic| tm_at "st") => `(tactic| (with_reducible refine iteM_nfi ?_))
local macro_rules | `(tactic| tm_at "st") => `(tactic| (with_reducible refine iteM_nti ?_))
local macro_rules | `(tactic| tm_at "st") => `(tactic| (with_reducible refine iteM_fi ?_))
local macro_rules | `(tactic| tm_at "st") => `(tactic| (with_reducible refine iteM_ti ?_))
local macro_rules | `(tactic| tm_at "st") => `(tactic| (with_reducible refine fnR_same ?_))
local macro_rules | `(tactic| tm_at "st") => `(tactic| (with_reducible refine fnRK_i ?_))
local macro_rules | `(tactic| tm_at "st") => `(tactic| (with_reducible refine fnK_i ?_))
local macro_rules | `(tactic| tm_at "st") => `(tactic| (with_reducible refine fnM_i ?_))
local macro_rules | `(tactic| tm_at "st") => `(tactic| (with_reducible refine upF_i ?_))
local macro_rules | `(tactic| tm_at "st") => `(tactic| (with_reducible refine seqK_rt ?_))
local macro_rules | `(tactic| tm_at "st") => `(tactic| (with_reducible refine seqK_nx ?_))
local macro_rules | `(tactic| tm_at "st") => `(tactic| (with_reducible refine seqF_i ?_))
local macro_rules | `(tactic| tm_at "st") => `(tactic| (with_reducible refine rtM_i ?_))
local macro_rules | `(tactic| tm_at "st") => `(tactic| (with_reducible refine bnd_i ?_))
local macro_rules | `(tactic| tm_at "st") => `(tactic| (with_reducible refine sl_L ?_))
local macro_rules | `(tactic| tm_at "st") => `(tactic| (with_reducible refine sl_T ?_))
local macro_rules | `(tactic| tm_at "st") => `(tactic| (with_reducible refine intO_i ?_))
local macro_rules | `(tactic| tm_at "st") => `(tactic| (with_reducible refine ret_i ?_))
local macro_rules | `(tactic| tm_at "en") => `(tactic| (first | (with_reducible refine sp1_i ?_) | (with_reducible refine sp2_i ?_) | (with_reducible refine sp3_i ?_) | (with_reducible refine sp4_i ?_) | (with_reducible refine sp5_i ?_) | (with_reducible refine sp6_i ?_)))
local macro_rules | `(tactic| tm_at "mm") => `(tactic| repeat tm_at "st")
local macro_rules | `(tactic| tm_at "bb1") => `(tactic| (with_reducible refine ret_i ?_))
local macro_rules | `(tactic| tm_at "bb1") => `(tactic| (with_reducible refine bnd_i ?_))
local macro_rules | `(tactic| tm_at "bb") => `(tactic| repeat tm_at "bb1")
theorem snoc_ind {P : List Nat → Prop} (h0 : P []) (h1 : ∀ l c, P l → P (l ++ [c])) (l : List Nat) : P l := by
  have h : ∀ m : List Nat, P m.reverse := by
    intro m
    induction m with
    | nil => exact h0
    | cons c m ih => rw [List.reverse_cons]; exact h1 _ _ ih
  have := h l.reverse
  rwa [List.reverse_reverse] at this
open TL NumText in
theorem numL_head : ∀ n : Nat, 0 < n → (numL n).head? ≠ some 48 := by
  intro n
  induction n using Nat.strongRecOn with
  | _ n ih =>
    intro h0
    by_cases h : n < 10
    · rw [numL_lt h]
      intro e
      injection e with e
      omega
    · rw [numL_step (by omega)]
      have h1 := ih (n / 10) (by omega) (by omega)
      have h2 := numL_ne (n / 10)
      revert h1 h2
      generalize numL (n / 10) = l
      intro h1 h2
      cases l with
      | nil => exact absurd rfl h2
      | cons a l => exact h1
theorem dval_snoc (l : List Nat) (c : Nat) : NumText.digitsVal (l ++ [c]) = NumText.digitsVal l * 10 + (c - 48) := by
  unfold NumText.digitsVal
  rw [List.foldl_append]
  rfl
theorem dval_pos (l : List Nat) (hd : NumText.AllDigits l) (hn : l ≠ []) (hh : l.head? ≠ some 48) : 0 < NumText.digitsVal l := by
  revert hd hn hh
  refine snoc_ind (P := fun l => NumText.AllDigits l → l ≠ [] → l.head? ≠ some 48 → 0 < NumText.digitsVal l) (fun _ h => absurd rfl h) (fun l c ih hd hn hh => ?_) l
  · rw [dval_snoc]
    cases l with
    | nil =>
      have h1 := hd c (by simp)
      have h2 : c ≠ 48 := fun e => hh (by rw [e]; rfl)
      omega
    | cons a l =>
      have := ih (fun x hx => hd x (by simp at hx ⊢; rcases hx with h | h; exact .inl h; exact .inr (.inl h))) (by simp) (fun e => hh e)
      omega
open TL NumText in
theorem numL_back (l : List Nat) (hd : AllDigits l) (hn : l ≠ []) (hh : l = [48] ∨ l.head? ≠ some 48) : numL (digitsVal l) = l := by
  revert hd hn hh
  refine snoc_ind (P := fun l => AllDigits l → l ≠ [] → (l = [48] ∨ l.head? ≠ some 48) → numL (digitsVal l) = l) (fun _ h => absurd rfl h) (fun l c ih hd hn hh => ?_) l
  · have hc := hd c (by simp)
    cases l with
    | nil =>
      rw [dval_snoc]
      show numL (0 * 10 + (c - 48)) = [c]
      rw [numL_lt (by omega)]
      congr 1
      omega
    | cons a l =>
      have hd2 : AllDigits (a :: l) := fun x hx => hd x (by simp at hx ⊢; rcases hx with h | h; exact .inl h; exact .inr (.inl h))
      have hh2 : (a :: l).head? ≠ some 48 := by
        rcases hh with h | h
        · simp at h
        · exact h
      have hp := dval_pos (a :: l) hd2 (by simp) hh2
      rw [dval_snoc, numL_step (by omega)]
      have e1 : (digitsVal (a :: l) * 10 + (c - 48)) / 10 = digitsVal (a :: l) := by omega
      have e2 : 48 + (digitsVal (a :: l) * 10 + (c - 48)) % 10 = c := by omega
      rw [e1, e2, ih hd2 (by simp) (.inr hh2)]
def isDig (c : Nat) : Bool := decide (48 ≤ c) && decide (c ≤ 57)
def figs (l : List Nat) : List Nat := if l.head? = some 45 then l.tail else l
def plainL (l : List Nat) : Bool := (!decide (figs l = []) && (figs l).all isDig) && (decide (l = [48]) || !decide ((figs l).head? = some 48))
def valL (l : List Nat) : Int := if l.head? = some 45 then -((NumText.digitsVal l.tail : Nat) : Int) else ((NumText.digitsVal l : Nat) : Int)
def txt (n : Int) : Str := toString n
theorem allDig {l : List Nat} (h : l.all isDig = true) : NumText.AllDigits l := fun c hc => by
  have := List.all_eq_true.mp h c hc
  unfold isDig at this
  simp at this
  omega
theorem dig_all {l : List Nat} (h : NumText.AllDigits l) : l.all isDig = true := List.all_eq_true.mpr fun c hc => by
  have := h c hc
  unfold isDig
  simp
  omega
open TL in
theorem tl_txt (n : Int) : tl (txt n) = if n < 0 then 45 :: numL n.natAbs else numL n.toNat := by
  split
  · rename_i h
    have e : txt n = Str.ofString ("-" ++ toString (0 - n)) := by
      show Str.ofString (toString n) = _
      rw [PyProof.Rows.toString_neg h]
    rw [e, tl_ofString, String.toList_append, List.map_append]
    have e2 : (toString (0 - n)).toList.map Char.toNat = numL n.natAbs := by
      rw [← tl_ofString]
      have e3 : (0 - n) = ((n.natAbs : Nat) : Int) := by omega
      rw [e3, tl_num]
    rw [e2]
    rfl
  · rename_i h
    have e : n = ((n.toNat : Nat) : Int) := by omega
    show tl (Str.ofString (toString n)) = _
    rw [show toString n = toString ((n.toNat : Nat) : Int) from congrArg _ e, tl_num]
theorem numL_no45 (n : Nat) : (TL.numL n).head? ≠ some 45 := by
  intro e
  have := TL.numL_digits n 45 (List.mem_of_mem_head? e)
  omega
theorem plain_txt (n : Int) : plainL (TL.tl (txt n)) = true := by
  rw [tl_txt]
  split
  · rename_i h
    have e : figs (45 :: TL.numL n.natAbs) = TL.numL n.natAbs := if_pos rfl
    unfold plainL
    rw [e, dig_all (TL.numL_digits _)]
    have h1 := TL.numL_ne n.natAbs
    have h2 := numL_head n.natAbs (by omega)
    simp [h1, h2]
  · rename_i h
    have e : figs (TL.numL n.toNat) = TL.numL n.toNat := if_neg (numL_no45 _)
    unfold plainL
    rw [e, dig_all (TL.numL_digits _)]
    have h1 := TL.numL_ne n.toNat
    by_cases h0 : n.toNat = 0
    · rw [h0]
      rfl
    · have h2 := numL_head n.toNat (by omega)
      simp [h1, h2]
theorem val_txt (n : Int) : valL (TL.tl (txt n)) = n := by
  rw [tl_txt]
  split
  · rename_i h
    have e : valL (45 :: TL.numL n.natAbs) = -((NumText.digitsVal (TL.numL n.natAbs) : Nat) : Int) := if_pos rfl
    rw [e, TL.numL_val]
    omega
  · rename_i h
    have e : valL (TL.numL n.toNat) = ((NumText.digitsVal (TL.numL n.toNat) : Nat) : Int) := if_neg (numL_no45 _)
    rw [e, TL.numL_val]
    omega
theorem plain_parts {l : List Nat} (h : plainL l = true) : figs l ≠ [] ∧ NumText.AllDigits (figs l) ∧ (l = [48] ∨ (figs l).head? ≠ some 48) := by
  unfold plainL at h
  simp only [Bool.and_eq_true, Bool.or_eq_true, Bool.not_eq_true', decide_eq_false_iff_not, decide_eq_true_eq] at h
  exact ⟨h.1.1, allDig h.1.2, h.2⟩
theorem txt_val {x : Str} (h : plainL (TL.tl x) = true) : txt (valL (TL.tl x)) = x := by
  apply TL.ext_tl
  obtain ⟨h1, h2, h3⟩ := plain_parts h
  rw [tl_txt]
  by_cases hn : (TL.tl x).head? = some 45
  · have e1 : figs (TL.tl x) = (TL.tl x).tail := if_pos hn
    have e2 : valL (TL.tl x) = -((NumText.digitsVal (TL.tl x).tail : Nat) : Int) := if_pos hn
    have hx : TL.tl x = 45 :: (TL.tl x).tail := by
      revert hn
      cases TL.tl x with
      | nil => intro e; cases e
      | cons a l => intro e; injection e with e; rw [e]; rfl
    rw [e1] at h1 h2 h3
    have h3 : (TL.tl x).tail.head? ≠ some 48 := by
      rcases h3 with h3 | h3
      · rw [h3] at hn; cases hn
      · exact h3
    have hp := dval_pos _ h2 h1 h3
    rw [e2, if_pos (by omega)]
    have e4 : (-((NumText.digitsVal (TL.tl x).tail : Nat) : Int)).natAbs = NumText.digitsVal (TL.tl x).tail := by omega
    rw [e4, numL_back _ h2 h1 (.inr h3)]
    exact hx.symm
  · have e1 : figs (TL.tl x) = TL.tl x := if_neg hn
    have e2 : valL (TL.tl x) = ((NumText.digitsVal (TL.tl x) : Nat) : Int) := if_neg hn
    rw [e1] at h1 h2 h3
    rw [e2, if_neg (by omega), Int.toNat_natCast, numL_back _ h2 h1 h3]
theorem int_plain {x : Str} (h : plainL (TL.tl x) = true) (hl : x.length ≤ 640) : PySem.intText? x = some (valL (TL.tl x)) := by
  obtain ⟨h1, h2, h3⟩ := plain_parts h
  by_cases hn : (TL.tl x).head? = some 45
  · have e1 : figs (TL.tl x) = (TL.tl x).tail := if_pos hn
    have e2 : valL (TL.tl x) = -((NumText.digitsVal (TL.tl x).tail : Nat) : Int) := if_pos hn
    have hx : TL.tl x = 45 :: (TL.tl x).tail := by
      revert hn
      cases TL.tl x with
      | nil => intro e; cases e
      | cons a l => intro e; injection e with e; rw [e]; rfl
    rw [e2]
    rw [e1] at h1 h2
    exact PySem.intText_neg hx h2 h1 (by omega)
  · have e1 : figs (TL.tl x) = TL.tl x := if_neg hn
    have e2 : valL (TL.tl x) = ((NumText.digitsVal (TL.tl x) : Nat) : Int) := if_neg hn
    rw [e2]
    rw [e1] at h1 h2
    exact PySem.intText_digits h2 h1 (by omega)
def cuts (l : List Nat) : List (List Nat) := TL.spl [47] 0 [] l
theorem split_cuts (x : Str) : (Txt.split x "/").map TL.tl = cuts (TL.tl x) := TL.split_spl x "/" (by decide) (TL.kind_ok (by decide +kernel))
theorem cuts_ne (l acc : List Nat) : TL.spl [47] 0 acc l ≠ [] := by
  induction l generalizing acc with
  | nil => rw [TL.spl_nil]; simp
  | cons c l ih =>
    by_cases hp : TL.pre [47] (c :: l) = true
    · rw [TL.spl_hit hp]; simp
    · rw [TL.spl_miss (by simpa using hp)]; exact ih _
theorem join_cuts (l acc : List Nat) : TL.joinL [47] (TL.spl [47] 0 acc l) = acc ++ l := by
  induction l generalizing acc with
  | nil => rw [TL.spl_nil]; show acc = _; simp
  | cons c l ih =>
    by_cases hp : TL.pre [47] (c :: l) = true
    · have hc : c = 47 := by
        by_cases h : c = 47
        · exact h
        · rw [TL.pre_of_head [] l h] at hp; cases hp
      subst hc
      rw [TL.spl_hit hp]
      have h1 := ih []
      have h2 := cuts_ne l []
      show TL.joinL [47] (acc :: TL.spl [47] 0 [] l) = _
      revert h1 h2
      generalize TL.spl [47] 0 [] l = ps
      intro h1 h2
      cases ps with
      | nil => exact absurd rfl h2
      | cons p ps =>
        show acc ++ ([47] ++ TL.joinL [47] (p :: ps)) = _
        rw [h1]
        simp
    · rw [TL.spl_miss (by simpa using hp), ih]
      simp
theorem cuts_join (l : List Nat) : TL.joinL [47] (cuts l) = l := by
  unfold cuts
  rw [join_cuts]
  rfl
theorem txt_free (n : Int) : 47 ∉ TL.tl (txt n) := by
  rw [tl_txt]
  split
  · intro h
    rcases List.mem_cons.mp h with h | h
    · cases h
    · exact TL.numL_free (.inl (by decide)) h
  · exact TL.numL_free (.inl (by decide))
def ratT (q : Q) : Str := if q.2 = 1 then txt q.1 else txt q.1 ++ "/" ++ txt q.2
theorem cuts_ratT (q : Q) : cuts (TL.tl (ratT q)) = if q.2 = 1 then [TL.tl (txt q.1)] else [TL.tl (txt q.1), TL.tl (txt q.2)] := by
  unfold ratT cuts
  split
  · exact TL.spl_join (S := []) (parts := [TL.tl (txt q.1)]) (by simp) (by simpa using txt_free q.1)
  · rw [TL.tl_append, TL.tl_append, List.append_assoc]
    exact TL.spl_join (S := []) (parts := [TL.tl (txt q.1), TL.tl (txt q.2)]) (by simp) (by intro p hp; rcases List.mem_cons.mp hp with rfl | hp; exact txt_free q.1; rw [List.mem_singleton.mp hp]; exact txt_free q.2)
def rdV (x : Str) : Option Q := if 60 < x.length then none else match cuts (TL.tl x) with
  | [p] => if plainL p = true then some (valL p, 1) else none
  | [p, r] => if (plainL p = true ∧ plainL r = true) ∧ (2 ≤ valL r ∧ Int.gcd (valL p) (valL r) = 1) then some (valL p, valL r) else none
  | _ => none
theorem rd_txt {q : Q} (hl : (ratT q).length ≤ 60) (hg : Int.gcd q.1 q.2 = 1) (hp : 0 < q.2) : rdV (ratT q) = some q := by
  unfold rdV
  rw [if_neg (by omega), cuts_ratT]
  obtain ⟨u, d⟩ := q
  by_cases h : d = 1
  · subst h
    dsimp only
    rw [if_pos rfl]
    dsimp only
    rw [if_pos (plain_txt _), val_txt]
  · dsimp only at hg hp ⊢
    rw [if_neg h]
    dsimp only
    rw [val_txt, val_txt, if_pos ⟨⟨plain_txt _, plain_txt _⟩, by omega, hg⟩]
theorem cut1 {x : Str} {p : List Nat} (h : cuts (TL.tl x) = [p]) : TL.tl x = p := by
  have := cuts_join (TL.tl x)
  rw [h] at this
  exact this.symm
theorem cut2 {x : Str} {p r : List Nat} (h : cuts (TL.tl x) = [p, r]) : TL.tl x = p ++ ([47] ++ r) := by
  have := cuts_join (TL.tl x)
  rw [h] at this
  exact this.symm
def ofL (l : List Nat) : Str := ⟨l.toArray⟩
theorem txt_plain {p : List Nat} (h : plainL p = true) : TL.tl (txt (valL p)) = p := by
  have := txt_val (x := ofL p) h
  have e := congrArg TL.tl this
  exact e
theorem rd_back {x : Str} {q : Q} (h : rdV x = some q) : ratT q = x := by
  unfold rdV at h
  split at h
  · cases h
  · split at h
    · rename_i p e
      split at h
      · rename_i hp
        injection h with h
        subst h
        apply TL.ext_tl
        unfold ratT
        rw [if_pos rfl, txt_plain hp, cut1 e]
      · cases h
    · rename_i p r e
      split at h
      · rename_i hp
        injection h with h
        subst h
        apply TL.ext_tl
        unfold ratT
        rw [if_neg (by dsimp only; omega), TL.tl_append, TL.tl_append, txt_plain hp.1.1, txt_plain hp.1.2, cut2 e, List.append_assoc]
        rfl
      · cases h
    · cases h
theorem two_back {x : Str} {p r : List Nat} (e : cuts (TL.tl x) = [p, r]) (hp : plainL p = true) (hr : plainL r = true) (h2 : 2 ≤ valL r) :
    ratT (mkQ (valL p) (valL r)) = x ↔ Int.gcd (valL p) (valL r) = 1 := by
  have hpc : piece (valL p) (valL r) = ((Int.gcd (valL p) (valL r) : Nat) : Int) := by
    unfold piece
    rw [if_neg (by omega)]
  constructor
  · intro h
    have h3 := cuts_ratT (mkQ (valL p) (valL r))
    rw [h, e] at h3
    split at h3
    · exact absurd (congrArg List.length h3) (by simp)
    · injection h3 with _ h4
      injection h4 with h4 _
      have h5 := congrArg valL h4
      rw [val_txt] at h5
      have hne : piece (valL p) (valL r) ≠ 0 := piece_ne (by omega)
      have h6 : (mkQ (valL p) (valL r)).2 = (valL r).fdiv (piece (valL p) (valL r)) := rfl
      rw [h6, hpc, Int.fdiv_eq_ediv_of_nonneg _ (by omega)] at h5
      have h7 : ((Int.gcd (valL p) (valL r) : Nat) : Int) ∣ valL r := Int.gcd_dvd_right ..
      obtain ⟨k, hk⟩ := h7
      have hg : ((Int.gcd (valL p) (valL r) : Nat) : Int) ≠ 0 := by rw [← hpc]; exact hne
      have h8 : valL r / ((Int.gcd (valL p) (valL r) : Nat) : Int) = k := by
        rw [Int.ediv_eq_iff_eq_mul_right hg ⟨k, hk⟩]
        exact hk
      rw [h8] at h5
      rw [← h5] at hk
      have h9 : ((Int.gcd (valL p) (valL r) : Nat) : Int) * valL r = 1 * valL r := by rw [← hk]; omega
      have h10 := Int.eq_of_mul_eq_mul_right (by omega) h9
      omega
  · intro hg
    have e1 : mkQ (valL p) (valL r) = (valL p, valL r) := by
      unfold mkQ
      rw [hpc, hg]
      show ((valL p).fdiv 1, (valL r).fdiv 1) = _
      rw [Int.fdiv_one, Int.fdiv_one]
    rw [e1]
    apply TL.ext_tl
    unfold ratT
    rw [if_neg (by dsimp only; omega), TL.tl_append, TL.tl_append, txt_plain hp, txt_plain hr, cut2 e, List.append_assoc]
    rfl


section
variable {m : Led} {E : XR} {x y z : Str} {a b n : Int}
theorem slX_s {lo hi : Option Int} {R : D → Led → Prop} (hz : z.length ≤ 100000) (k : R (.str (cutS z lo hi)) m) : slX (.str z) lo hi m R E := .inl ⟨z, rfl, hz, k⟩
theorem binX_s {R : D → Led → Prop} (hz : x.length + y.length ≤ 100000) (k : R (.str (x ++ y)) m) : binX .Add (.str x) (.str y) m R E := .inl ⟨x, y, rfl, rfl, rfl, hz, k⟩
theorem binX_m {R : D → Led → Prop} (h1 : x.length ≤ 16) (h2 : n ≤ 1048576) (h3 : -1048576 ≤ n) (k : R (.str (Txt.mul x n)) m) : binX .Mult (.str x) (.int n) m R E := .inr (.inl ⟨x, n, rfl, rfl, rfl, h1, h2, h3, k⟩)
theorem binX_i {R : D → Led → Prop} (k : R (.int (a + b)) m) : binX .Add (.int a) (.int b) m R E := .inr (.inr (add_i k))
theorem strX_i {R : D → Led → Prop} (h : n.natAbs.log2 < 1920) (k : R (.str (txt n)) m) : strX [.int n] m R E := ⟨n, rfl, h, k⟩
theorem intX_s {R : D → Led → Prop} (h1 : plainL (TL.tl z) = true) (h2 : z.length ≤ 640) (k : R (.int (valL (TL.tl z))) m) : intX [.str z] m R E := .inl ⟨z, _, rfl, h2, int_plain h1 h2, k⟩
theorem strW_i {R : List D → Led → Prop} (k : R (sgnD z) m) : strW (.str z) m R E := ⟨z, rfl, k⟩
theorem chkS_i {R : Unit → Led → Prop} (k : R () m) : chkS (.str z) m R E := ⟨⟨z, rfl⟩, k⟩
theorem splX_i {R : D → Led → Prop} (h : x.length ≤ 100000) (k : R (.lst ((Txt.split x "/").map .str)) m) : splX (.str x) [.str "/"] m R E := ⟨x, "/", rfl, rfl, h, by decide, k⟩
theorem fmM_n {R : Str → Led → Prop} (h : n.natAbs.log2 < 1920) (h2 : (txt n).length ≤ 30000) (k : R (txt n) m) : fmM (.int n) m R E := ⟨txt n, if_pos h, h2, k⟩
theorem eq_s {R : Bool → Led → Prop} (k : R (decide (x = y)) m) : cmpB .Eq (.str x) (.str y) m R E := eq_di trivial trivial fun t ht => by
  have e : t = decide (x = y) := by
    by_cases h : x = y
    · rw [decide_eq_true h]; exact ht.mpr (by rw [h])
    · rw [decide_eq_false h]
      cases t with
      | false => rfl
      | true => exact absurd (by have := ht.mp rfl; injection this) h
  rw [e]; exact k
theorem ne_s {R : Bool → Led → Prop} (k : R (!decide (x = y)) m) : cmpB .NotEq (.str x) (.str y) m R E := ne_di trivial trivial fun t ht => by
  have e : t = decide (x = y) := by
    by_cases h : x = y
    · rw [decide_eq_true h]; exact ht.mpr (by rw [h])
    · rw [decide_eq_false h]
      cases t with
      | false => rfl
      | true => exact absurd (by have := ht.mp rfl; injection this) h
  rw [e]; exact k
theorem iteM_go {α : Type} {k : Bool} {c1 c2 : M α} {R : α → Led → Prop} (v : α) (h1 : k = true → ∀ P : α → Led → Prop, P v m → c1 m P E) (h2 : k = false → ∀ P : α → Led → Prop, P v m → c2 m P E) (kk : R v m) : iteM k c1 c2 m R E := iteM_i (fun h => h1 h R kk) fun h => h2 h R kk
theorem lenS_i {R : D → Led → Prop} (h : z.length ≤ 100000) (k : R (.int (z.length : Nat)) m) : lenM [.str z] m R E := ⟨h, k⟩
theorem ixS_i {R : D → Led → Prop} {c : Nat} {i : Int} (h : z.length ≤ 100000) (hx : atI z.cps.toList i = some c) (k : R (.str ⟨#[c]⟩) m) : ixM (.str z) (.int i) m R E := ⟨c, h, hx, k⟩
end

local macro_rules | `(tactic| tm_at "st") => `(tactic| (with_reducible refine lenS_i (by first | assumption | omega) ?_))
local macro_rules | `(tactic| tm_at "st") => `(tactic| (with_reducible refine slX_s (by first | assumption | omega) ?_))
local macro_rules | `(tactic| tm_at "st") => `(tactic| (with_reducible refine strW_i ?_))
local macro_rules | `(tactic| tm_at "st") => `(tactic| (with_reducible refine chkS_i ?_))
local macro_rules | `(tactic| tm_at "st") => `(tactic| (with_reducible refine binX_i ?_))
local macro_rules | `(tactic| tm_at "st") => `(tactic| (with_reducible refine eq_s ?_))
local macro_rules | `(tactic| tm_at "st") => `(tactic| (with_reducible refine ne_s ?_))

theorem cut_to (z : Str) (k : Nat) : TL.tl (cutS z none (some (k : Int))) = (TL.tl z).take k := by
  show ((TL.tl z).drop (HT.sIx z.length 0 none)).take (HT.sIx z.length z.length (some (k : Int)) - HT.sIx z.length 0 none) = _
  rw [HT.sIx_none, HT.sIx_nat, List.drop_zero, Nat.sub_zero, TL.len_tl]
  rcases Nat.le_total k (TL.tl z).length with h | h
  · rw [Nat.min_eq_left h]
  · rw [Nat.min_eq_right h, List.take_length, List.take_of_length_le h]
theorem cut_from (z : Str) (k : Nat) : TL.tl (cutS z (some (k : Int)) none) = (TL.tl z).drop k := by
  show ((TL.tl z).drop (HT.sIx z.length 0 (some (k : Int)))).take (HT.sIx z.length z.length none - HT.sIx z.length 0 (some (k : Int))) = _
  rw [HT.sIx_none, HT.sIx_nat, TL.len_tl]
  rcases Nat.le_total k (TL.tl z).length with h | h
  · rw [Nat.min_eq_left h, List.take_of_length_le (by rw [List.length_drop]; omega)]
  · rw [Nat.min_eq_right h, Nat.sub_self, List.take_zero, List.drop_eq_nil_of_le h]
def figS (x : Str) : Str := ofL (figs (TL.tl x))
theorem tl_figS (x : Str) : TL.tl (figS x) = figs (TL.tl x) := rfl
theorem figs_len (l : List Nat) : (figs l).length ≤ l.length := by
  unfold figs
  split
  · rw [List.length_tail]; omega
  · exact Nat.le_refl _
theorem figS_len (x : Str) : (figS x).length ≤ x.length := by
  rw [TL.len_tl, TL.len_tl, tl_figS]
  exact figs_len _
theorem dash_first (x : Str) : cutS x none (some 1) = ("-" : Str) ↔ (TL.tl x).head? = some 45 := by
  have h := cut_to x 1
  constructor
  · intro e
    have e2 := h.symm.trans (congrArg TL.tl e)
    revert e2
    cases TL.tl x with
    | nil => intro e2; cases e2
    | cons a l => intro e2; rw [List.take_succ_cons, List.take_zero] at e2; have : [a] = [45] := e2; injection this with this; rw [this]; rfl
  · intro e
    apply TL.ext_tl
    refine h.trans ?_
    revert e
    cases TL.tl x with
    | nil => intro e; cases e
    | cons a l => intro e; injection e with e; rw [e]; rfl
theorem dash_drop {x : Str} (h : (TL.tl x).head? = some 45) : cutS x (some 1) none = figS x := by
  apply TL.ext_tl
  rw [tl_figS]
  refine (cut_from x 1).trans ?_
  unfold figs
  rw [if_pos h]
  cases TL.tl x <;> rfl
theorem dash_not {x : Str} (h : ¬ (TL.tl x).head? = some 45) : x = figS x := by
  apply TL.ext_tl
  rw [tl_figS]
  unfold figs
  rw [if_neg h]
theorem empty_figS (x : Str) : figS x = ("" : Str) ↔ figs (TL.tl x) = [] := by
  constructor
  · intro e
    exact congrArg TL.tl e
  · intro e
    apply TL.ext_tl
    rw [tl_figS, e]
    rfl
theorem dig_in (c : Nat) : decide (c ∈ TL.tl ("0123456789" : Str)) = isDig c := by
  have e : TL.tl ("0123456789" : Str) = [48, 49, 50, 51, 52, 53, 54, 55, 56, 57] := by decide +kernel
  rw [e]
  unfold isDig
  simp only [List.mem_cons, List.not_mem_nil, or_false]
  rw [← Bool.decide_and]
  congr 1
  apply propext
  omega
theorem zero_txt (x : Str) : x = ("0" : Str) ↔ TL.tl x = [48] := by
  constructor
  · intro e; rw [e]; rfl
  · intro e
    apply TL.ext_tl
    exact e
theorem sgnD_map (x : Str) : sgnD x = (TL.tl x).map chrD := rfl
theorem digs_all {f : D → M (Option D)} {x : Str} {m : Led} {R : D → Led → Prop} {E : XR} (hf : ∀ (c : Nat) (P : Option D → Led → Prop), P (some (.bl (isDig c))) m → f (chrD c) m P NoX) (hl : x.length ≤ 100000) (k : R (.lst (((TL.tl x).map isDig).map D.bl)) m) : (bnd (compM f (sgnD x) []) lsM) m R E := by
  rw [sgnD_map]
  refine comp_map (e := chrD) (g := fun c => D.bl (isDig c)) (TL.tl x) [] (fun c _ P hp => hf c P hp) (by rw [← TL.len_tl]; simpa using hl) ?_
  rw [List.nil_append]
  show R (.lst ((TL.tl x).map fun c => D.bl (isDig c))) m
  rw [List.map_map] at k
  exact k
theorem zero_sign (c : Nat) : (⟨#[c]⟩ : Str) = ("0" : Str) ↔ c = 48 := by
  constructor
  · intro e
    have := congrArg TL.tl e
    have h : [c] = [48] := this
    injection h
  · intro e; rw [e]; rfl
theorem atI_head {l : List Nat} (h : l ≠ []) : ∃ c, atI l 0 = some c ∧ l.head? = some c := by
  cases l with
  | nil => exact absurd rfl h
  | cons a l => exact ⟨a, atI_0, rfl⟩
theorem law_plain_ok {x : Str} (hl : x.length ≤ 100000) {m : Led} {R : D → Led → Prop} {E : XR} (k : R (.bl (plainL (TL.tl x))) m) : m_law_plain [.str x] m R E := by
  show fnM (b_law_plain _) m R E
  unfold b_law_plain
  have hf := figS_len x
  tm_at "mm"
  refine iteM_go (Fl.nx (D.str (figS x))) (fun h P q => ?_) (fun h P q => ?_) ?_
  · have h := (dash_first x).mp (of_decide_eq_true h)
    tm_at "mm"
    show P (Fl.nx (D.str (cutS x (some 1) none))) m
    rw [dash_drop h]
    exact q
  · have h := fun e => of_decide_eq_false h ((dash_first x).mpr e)
    have e := dash_not h
    tm_at "mm"
    rw [← e] at q
    exact q
  tm_at "mm"
  by_cases h1 : figs (TL.tl x) = []
  · rw [decide_eq_true ((empty_figS x).mpr h1)]
    tm_at "mm"
    have e : plainL (TL.tl x) = false := by unfold plainL; rw [h1]; rfl
    rw [e] at k
    exact k
  · rw [decide_eq_false (fun e => h1 ((empty_figS x).mp e))]
    tm_at "mm"
    refine digs_all (fun c P hp => ?_) (by omega) ?_
    · tm_at "mm"
      refine ⟨c, _, rfl, rfl, ?_⟩
      rw [dig_in]
      tm_at "mm"
      exact hp
    tm_at "mm"
    refine all_L ?_
    tm_at "mm"
    by_cases h2 : (figs (TL.tl x)).all isDig = true
    · have e2 : ((TL.tl (figS x)).map isDig).all id = true := by rw [tl_figS, List.all_map]; exact h2
      rw [e2]
      tm_at "mm"
      refine orM_i (fun h => ?_) (fun h => ?_)
      · tm_at "mm"
        have h := (zero_txt x).mp (of_decide_eq_true h)
        have e : plainL (TL.tl x) = true := by rw [h]; rfl
        rw [e] at k
        exact k
      · have h := fun e => of_decide_eq_false h ((zero_txt x).mpr e)
        obtain ⟨c, hc, hc2⟩ := atI_head h1
        tm_at "mm"
        refine ixS_i (by omega) hc ?_
        tm_at "mm"
        have e : plainL (TL.tl x) = !decide ((⟨#[c]⟩ : Str) = ("0" : Str)) := by
          unfold plainL
          rw [h2, hc2, decide_eq_false h1, decide_eq_false h]
          simp [zero_sign]
        rw [e] at k
        exact k
    · have e2 : ((TL.tl (figS x)).map isDig).all id = false := by rw [tl_figS, List.all_map]; exact Bool.eq_false_iff.mpr h2
      rw [e2]
      tm_at "mm"
      have e : plainL (TL.tl x) = false := by unfold plainL; rw [Bool.eq_false_iff.mpr h2]; simp
      rw [e] at k
      exact k
theorem read_integer_ok {x : Str} (hl : x.length ≤ 640) {m : Led} {R : D → Led → Prop} {E : XR} (k : R (if plainL (TL.tl x) = true then .int (valL (TL.tl x)) else .non) m) : m_read_integer [.str x] m R E := by
  show fnM (b_read_integer _) m R E
  unfold b_read_integer
  have hf := figS_len x
  tm_at "mm"
  refine iteM_go (D.str (figS x)) (fun h P q => ?_) (fun h P q => ?_) ?_
  · have h := (dash_first x).mp (of_decide_eq_true h)
    tm_at "mm"
    show P (D.str (cutS x (some 1) none)) m
    rw [dash_drop h]
    exact q
  · have h := fun e => of_decide_eq_false h ((dash_first x).mpr e)
    have e := dash_not h
    tm_at "mm"
    rw [← e] at q
    exact q
  tm_at "mm"
  by_cases h1 : figs (TL.tl x) = []
  · rw [decide_eq_true ((empty_figS x).mpr h1)]
    tm_at "mm"
    have e : plainL (TL.tl x) = false := by unfold plainL; rw [h1]; rfl
    rw [e] at k
    exact k
  · rw [decide_eq_false (fun e => h1 ((empty_figS x).mp e))]
    tm_at "mm"
    refine digs_all (fun c P hp => ?_) (by omega) ?_
    · tm_at "mm"
      refine ⟨c, _, rfl, rfl, ?_⟩
      rw [dig_in]
      tm_at "mm"
      exact hp
    tm_at "mm"
    refine all_L ?_
    tm_at "mm"
    by_cases h2 : (figs (TL.tl x)).all isDig = true
    · have e2 : ((TL.tl (figS x)).map isDig).all id = true := by rw [tl_figS, List.all_map]; exact h2
      rw [e2]
      obtain ⟨c, hc, hc2⟩ := atI_head h1
      tm_at "mm"
      refine ixS_i (by omega) hc ?_
      tm_at "mm"
      by_cases h3 : c = 48
      · rw [decide_eq_true ((zero_sign c).mpr h3)]
        tm_at "mm"
        by_cases h4 : TL.tl x = [48]
        · rw [decide_eq_true ((zero_txt x).mpr h4)]
          have e : plainL (TL.tl x) = true := by rw [h4]; rfl
          rw [if_pos e] at k
          tm_at "mm"
          refine intX_s e hl ?_
          tm_at "mm"
          exact k
        · rw [decide_eq_false (fun e => h4 ((zero_txt x).mp e))]
          have e : plainL (TL.tl x) = false := by unfold plainL; rw [hc2, h3, decide_eq_false h4]; simp
          rw [e] at k
          tm_at "mm"
          exact k
      · rw [decide_eq_false (fun e => h3 ((zero_sign c).mp e))]
        have e : plainL (TL.tl x) = true := by unfold plainL; rw [h2, hc2, decide_eq_false h1]; simp [h3]
        rw [if_pos e] at k
        tm_at "mm"
        refine intX_s e hl ?_
        tm_at "mm"
        exact k
    · have e2 : ((TL.tl (figS x)).map isDig).all id = false := by rw [tl_figS, List.all_map]; exact Bool.eq_false_iff.mpr h2
      rw [e2]
      tm_at "mm"
      have e : plainL (TL.tl x) = false := by unfold plainL; rw [Bool.eq_false_iff.mpr h2]; simp
      rw [e] at k
      exact k


theorem divisor_ok {d : D} {ns : List Int} {m : Led} {R : D → Led → Prop} {E : XR} (hd : Seq d (ns.map D.int)) (k : R (.int (gL ns : Nat)) m) : m_divisor [d] m R E := by
  show fnM (b_divisor _) m R E
  unfold b_divisor
  tm_at "mm"
  have go : seqM d m = fun R (_ : XR) => R (ns.map D.int) m := by rcases hd with rfl | rfl <;> rfl
  rw [go]
  tm_at "mm"
  refine for_fold (e := D.int) (enc := fun g : Nat => D.int (g : Int)) (step := fun g n => Nat.gcd n.natAbs g) ns 0 (fun n _ g Q hq => ?_) ?_
  · tm_at "mm"
    refine while_ind (fun y s m2 => m2 = m ∧ ∃ x : Nat, Nat.gcd x y = Nat.gcd n.natAbs g ∧ s = (D.int (x : Nat), D.int (y : Nat))) ?_ g _ m ⟨rfl, n.natAbs, rfl, rfl⟩
    rintro y s m2 ⟨rfl, x, hg, rfl⟩ Q2 hy hn
    tm_at "mm"
    by_cases h0 : y = 0
    · subst h0
      rw [show (((0 : Nat) : Int) != 0) = false from rfl]
      refine hn _ ?_
      tm_at "mm"
      rw [Nat.gcd_zero_right] at hg
      show Q (Fl.nx (D.int (x : Nat))) m2
      rw [hg]
      exact hq
    · rw [show (((y : Nat) : Int) != 0) = true by simp; omega]
      refine hy _ fun Q3 h3 => ?_
      tm_at "mm"
      refine h3 _ _ (x % y) (Nat.mod_lt _ (by omega)) ⟨rfl, y, ?_, ?_⟩
      · rw [← hg, Nat.gcd_comm x y, Nat.gcd_rec y x, Nat.gcd_comm]
      · rw [Int.natCast_emod]
  · tm_at "mm"
    exact k

theorem ratio_ok {u d : Int} {m : Led} {R : D → Led → Prop} {E : XR} (hd : d ≠ 0) (hb : Bd 8000 d) (k : R (rat (mkQ u d)) m) : m_ratio [.int u, .int d] m R E := by
  show fnM (b_ratio _ _) m R E
  unfold b_ratio
  tm_at "mm"
  refine iteM_dec (fun h => absurd h hd) (fun _ => ?_)
  tm_at "mm"
  refine divisor_ok (ns := [u, d]) (.inl rfl) ?_
  rw [gL2]
  have hp := piece_bd (u := u) hd hb
  have hp0 := piece_ne (u := u) hd
  tm_at "mm"
  have fin : ∀ x : Int, x = piece u d → (bnd (bnd (bnd (bnd (DL.ret (D.int u)) fun x => bnd (DL.ret (D.int (piece u d))) fun y => binM .FloorDiv x y) fun d1 => bnd (bnd (bnd (DL.ret (D.int d)) fun x => bnd (DL.ret (D.int (piece u d))) fun y => binM .FloorDiv x y) fun d2 => bnd (DL.ret []) fun ds => DL.ret (d2 :: ds)) fun ds => DL.ret (d1 :: ds)) mkT) (rtM (σ := Unit) (τ := Empty))) m (fnR m R) (fun nm fd m' => E nm fd (m'.take m.length)) := by
    intro x _
    tm_at "mm"
    refine fdiv_i (hp.divG hp0 (by decide)) ?_
    tm_at "mm"
    refine fdiv_i (hp.divG hp0 (by decide)) ?_
    tm_at "mm"
    exact k
  refine iteM_dec (fun h => ?_) (fun h => ?_)
  · tm_at "mm"
    have e : -(Int.gcd u d : Int) = piece u d := by unfold piece; rw [if_pos h]
    rw [e]
    exact fin _ rfl
  · tm_at "mm"
    have e : (Int.gcd u d : Int) = piece u d := by unfold piece; rw [if_neg h]
    rw [e]
    exact fin _ rfl
local macro_rules | `(tactic| tm_at "st") => `(tactic| (with_reducible refine lenS_i (by first | assumption | omega) ?_))
local macro_rules | `(tactic| tm_at "st") => `(tactic| (with_reducible refine slX_s (by first | assumption | omega) ?_))
local macro_rules | `(tactic| tm_at "st") => `(tactic| (with_reducible refine strW_i ?_))
local macro_rules | `(tactic| tm_at "st") => `(tactic| (with_reducible refine chkS_i ?_))
local macro_rules | `(tactic| tm_at "st") => `(tactic| (with_reducible refine binX_i ?_))
local macro_rules | `(tactic| tm_at "st") => `(tactic| (with_reducible refine eq_s ?_))
local macro_rules | `(tactic| tm_at "st") => `(tactic| (with_reducible refine ne_s ?_))

theorem dval_lt (l : List Nat) (hd : NumText.AllDigits l) : NumText.digitsVal l < 10 ^ l.length := by
  revert hd
  refine snoc_ind (P := fun l => NumText.AllDigits l → NumText.digitsVal l < 10 ^ l.length) (fun _ => by decide) (fun l c ih hd => ?_) l
  have h1 := ih fun x hx => hd x (List.mem_append_left _ hx)
  have h2 := hd c (by simp)
  rw [dval_snoc, List.length_append, List.length_singleton, Nat.pow_succ]
  omega
theorem val_bd {l : List Nat} (h : plainL l = true) (hl : l.length ≤ 60) : Bd 240 (valL l) := by
  obtain ⟨h1, h2, h3⟩ := plain_parts h
  have key : ∀ l' : List Nat, NumText.AllDigits l' → l'.length ≤ 60 → NumText.digitsVal l' < 2 ^ 240 := fun l' hd hl' =>
    Nat.lt_of_lt_of_le (dval_lt l' hd) (Nat.le_trans (Nat.pow_le_pow_right (by decide) hl') (by decide +kernel))
  unfold Bd valL
  by_cases hn : l.head? = some 45
  · have e1 : figs l = l.tail := if_pos hn
    rw [e1] at h2
    have := key l.tail h2 (by rw [List.length_tail]; omega)
    rw [if_pos hn]
    omega
  · have e1 : figs l = l := if_neg hn
    rw [e1] at h2
    have := key l h2 hl
    rw [if_neg hn]
    omega
theorem bd_log {n : Int} (h : Bd 1900 n) : n.natAbs.log2 < 1920 := by
  by_cases h0 : n.natAbs = 0
  · rw [h0]; decide
  · have h1 : n.natAbs.log2 < 1900 := (Nat.log2_lt h0).mpr h
    omega
theorem txt_len10 {n : Int} {k : Nat} (hk : 0 < k) (h : n.natAbs < 10 ^ k) : (txt n).length ≤ k + 1 := by
  rw [TL.len_tl, tl_txt]
  split
  · rw [List.length_cons]
    have := TL.numL_len hk h
    omega
  · have := TL.numL_len hk (n := n.toNat) (by omega)
    omega
theorem txt_len {n : Int} (h : Bd 1900 n) : (txt n).length ≤ 1901 := txt_len10 (k := 1900) (by decide) (Nat.lt_of_lt_of_le h (Nat.pow_le_pow_left (by decide) 1900))
theorem ratio_text_ok {q : Q} {m : Led} {R : D → Led → Prop} {E : XR} (h1 : Bd 1900 q.1) (h2 : Bd 1900 q.2) (k : R (.str (ratT q)) m) : m_ratio_text [rat q] m R E := by
  show fnM (b_ratio_text _) m R E
  unfold b_ratio_text
  have l1 := txt_len h1
  have l2 := txt_len h2
  tm_at "mm"
  refine iteM_dec (fun h => ?_) (fun h => ?_)
  · tm_at "mm"
    refine strX_i (bd_log h1) ?_
    tm_at "mm"
    have e : ratT q = txt q.1 := if_pos h
    rw [e] at k
    exact k
  · tm_at "mm"
    refine fmM_n (bd_log h1) (by omega) ?_
    tm_at "mm"
    refine fmM_n (bd_log h2) (by omega) ?_
    tm_at "mm"
    have e : ratT q = txt q.1 ++ "/" ++ txt q.2 := if_neg h
    rw [e] at k
    exact k
theorem spl_len (l acc : List Nat) : (TL.spl [47] 0 acc l).length ≤ l.length + 1 := by
  induction l generalizing acc with
  | nil => rw [TL.spl_nil]; simp
  | cons c l ih =>
    by_cases hp : TL.pre [47] (c :: l) = true
    · rw [TL.spl_hit hp]
      have := ih []
      simp only [List.length_cons]
      exact Nat.succ_le_succ this
    · rw [TL.spl_miss (by simpa using hp)]
      have := ih (acc ++ [c])
      simp only [List.length_cons]
      omega
theorem spl_part (l acc : List Nat) : ∀ p ∈ TL.spl [47] 0 acc l, p.length ≤ acc.length + l.length := by
  induction l generalizing acc with
  | nil => rw [TL.spl_nil]; intro p hp; rw [List.mem_singleton.mp hp]; simp
  | cons c l ih =>
    by_cases hp : TL.pre [47] (c :: l) = true
    · rw [TL.spl_hit hp]
      intro p h
      rcases List.mem_cons.mp h with rfl | h
      · omega
      · have := ih [] p h
        simp at this ⊢
        omega
    · rw [TL.spl_miss (by simpa using hp)]
      intro p h
      have := ih _ p h
      simp at this ⊢
      omega
theorem split_len (x : Str) : (Txt.split x "/").length ≤ x.length + 1 := by
  have := spl_len (TL.tl x) []
  have e := congrArg List.length (split_cuts x)
  rw [List.length_map] at e
  rw [TL.len_tl, e]
  exact this
theorem split_part (x : Str) : ∀ p ∈ Txt.split x "/", p.length ≤ x.length := fun p hp => by
  have h : TL.tl p ∈ cuts (TL.tl x) := by rw [← split_cuts]; exact List.mem_map.mpr ⟨p, hp, rfl⟩
  have := spl_part (TL.tl x) [] _ h
  rw [TL.len_tl, TL.len_tl]
  simpa using this
theorem inPB_non {ds : List D} {m : Led} {RB : Bool → Led → Prop} {E : XR} (hd : ∀ d ∈ ds, NB 20 d) (k : ∀ t : Bool, (t = true ↔ D.non ∈ ds) → RB t m) : inPB false .non (.lst ds) m RB E :=
  ⟨.non, ds, .now _, .inl (.inl rfl), trivial, fun d h => (hd d h).sh, k _ (any_mem hd trivial)⟩
def numD (l : List Nat) : D := if plainL l = true then .int (valL l) else .non
theorem numD_nb (l : List Nat) : NB 20 (numD l) := by
  unfold numD
  split <;> trivial
theorem numD_non (l : List Nat) : numD l = .non ↔ plainL l = false := by
  unfold numD
  split
  · rename_i h
    rw [h]
    exact ⟨fun e => (nomatch e), fun e => nomatch e⟩
  · rename_i h
    exact ⟨fun _ => Bool.eq_false_iff.mpr h, fun _ => rfl⟩
theorem read_ratio_ok {x : Str} {m : Led} {R : D → Led → Prop} {E : XR} (hl : x.length ≤ 100000) (k : ∀ q, rdV x = some q → R (rat q) m) (ke : rdV x = none → E "BadText" none m) : m_read_ratio [.str x] m R E := by
  show fnM (b_read_ratio _) m R E
  unfold b_read_ratio
  have ke' : rdV x = none → E "BadText" none (m.take m.length) := fun h => by rw [List.take_length]; exact ke h
  tm_at "mm"
  refine iteM_dec (fun h => ?_) (fun h => ?_)
  · tm_at "mm"
    exact ke' (if_pos (by omega))
  have hl2 : ¬ 60 < x.length := by omega
  have e0 : rdV x = match cuts (TL.tl x) with
    | [p] => if plainL p = true then some (valL p, 1) else none
    | [p, r] => if (plainL p = true ∧ plainL r = true) ∧ (2 ≤ valL r ∧ Int.gcd (valL p) (valL r) = 1) then some (valL p, valL r) else none
    | _ => none := if_neg hl2
  tm_at "mm"
  refine splX_i hl ?_
  have h1 := split_len x
  have h2 := split_part x
  have h3 := split_cuts x
  revert h1 h2 h3
  generalize Txt.split x "/" = ps
  intro h1 h2 h3
  tm_at "mm"
  refine comp_map (e := D.str) (g := fun p => numD (TL.tl p)) ps [] (fun p hp Q hq => ?_) (by simp; omega) ?_
  · tm_at "mm"
    have := h2 p hp
    refine read_integer_ok (by omega) ?_
    tm_at "mm"
    exact hq
  rw [List.nil_append]
  tm_at "mm"
  match ps, h1, h2, h3 with
  | [], _, _, h3 => exact absurd h3.symm (cuts_ne _ _)
  | p :: r :: s :: t, _, _, h3 =>
    have h3 : cuts (TL.tl x) = TL.tl p :: TL.tl r :: TL.tl s :: t.map TL.tl := h3.symm
    rw [decide_eq_true (by simp only [List.length_map, List.length_cons]; omega)]
    tm_at "mm"
    rw [h3] at e0
    exact ke' e0
  | [p], h1, h2, h3 =>
    have h3 : cuts (TL.tl x) = [TL.tl p] := h3.symm
    rw [h3] at e0
    simp only [List.map_cons, List.map_nil]
    rw [decide_eq_false (by simp)]
    tm_at "mm"
    refine inPB_non (fun d hd => by rw [List.mem_singleton.mp hd]; exact numD_nb _) fun t ht => ?_
    by_cases hp : plainL (TL.tl p) = true
    · have et : t = false := by
        cases t with
        | false => rfl
        | true => exact absurd (((numD_non _).mp (List.mem_singleton.mp (ht.mp rfl)).symm)) (by rw [hp]; decide)
      subst et
      have e1 : numD (TL.tl p) = .int (valL (TL.tl p)) := if_pos hp
      have e2 : rdV x = some (valL (TL.tl p), 1) := e0.trans (if_pos hp)
      have hb := (val_bd hp (by have := h2 p (by simp); rw [TL.len_tl] at this; omega)).up (b := 1900) (by decide)
      tm_at "mm"
      rw [decide_eq_false (by simp)]
      tm_at "mm"
      rw [decide_eq_false (by simp)]
      tm_at "mm"
      rw [e1]
      refine ratio_text_ok (q := (valL (TL.tl p), 1)) hb (Bd.one.up (by decide)) ?_
      tm_at "mm"
      rw [decide_eq_true (rd_back e2)]
      tm_at "mm"
      exact k _ e2
    · have et : t = true := ht.mpr (by rw [(numD_non _).mpr (Bool.eq_false_iff.mpr hp)]; simp)
      subst et
      tm_at "mm"
      exact ke' (e0.trans (if_neg hp))
  | [p, r], h1, h2, h3 =>
    have h3 : cuts (TL.tl x) = [TL.tl p, TL.tl r] := h3.symm
    rw [h3] at e0
    simp only [List.map_cons, List.map_nil]
    rw [decide_eq_false (by simp)]
    tm_at "mm"
    refine inPB_non (fun d hd => by rcases List.mem_cons.mp hd with rfl | hd; exact numD_nb _; rw [List.mem_singleton.mp hd]; exact numD_nb _) fun t ht => ?_
    by_cases hp : plainL (TL.tl p) = true ∧ plainL (TL.tl r) = true
    · have et : t = false := by
        cases t with
        | false => rfl
        | true =>
          have h4 := ht.mp rfl
          rcases List.mem_cons.mp h4 with h4 | h4
          · exact absurd ((numD_non _).mp h4.symm) (by rw [hp.1]; decide)
          · exact absurd ((numD_non _).mp (List.mem_singleton.mp h4).symm) (by rw [hp.2]; decide)
      subst et
      have e1 : numD (TL.tl p) = .int (valL (TL.tl p)) := if_pos hp.1
      have e2 : numD (TL.tl r) = .int (valL (TL.tl r)) := if_pos hp.2
      have hb := val_bd hp.1 (by have := h2 p (by simp); rw [TL.len_tl] at this; omega)
      have hb2 := val_bd hp.2 (by have := h2 r (by simp); rw [TL.len_tl] at this; omega)
      rw [e1, e2]
      tm_at "mm"
      rw [decide_eq_true (by simp)]
      tm_at "mm"
      by_cases hv : 2 ≤ valL (TL.tl r)
      · rw [decide_eq_false (by omega)]
        tm_at "mm"
        rw [decide_eq_true (by simp)]
        tm_at "mm"
        refine ixL_i (show atI _ (-1) = some (D.int (valL (TL.tl r))) from rfl) ?_
        tm_at "mm"
        refine ratio_ok (by omega) (hb2.up (by decide)) ?_
        tm_at "mm"
        have hq := mkQ_bd (u := valL (TL.tl p)) (d := valL (TL.tl r)) (by omega) hb hb2
        refine ratio_text_ok (hq.1.up (by decide)) (hq.2.up (by decide)) ?_
        tm_at "mm"
        have hw := two_back h3 hp.1 hp.2 hv
        by_cases hg : Int.gcd (valL (TL.tl p)) (valL (TL.tl r)) = 1
        · have e4 : rdV x = some (valL (TL.tl p), valL (TL.tl r)) := e0.trans (if_pos ⟨hp, hv, hg⟩)
          rw [decide_eq_true (hw.mpr hg)]
          tm_at "mm"
          have e5 : mkQ (valL (TL.tl p)) (valL (TL.tl r)) = (valL (TL.tl p), valL (TL.tl r)) := by
            unfold mkQ piece
            rw [if_neg (by omega), hg]
            show ((valL (TL.tl p)).fdiv 1, (valL (TL.tl r)).fdiv 1) = _
            rw [Int.fdiv_one, Int.fdiv_one]
          rw [e5]
          exact k _ e4
        · rw [decide_eq_false (fun e => hg (hw.mp e))]
          tm_at "mm"
          exact ke' (e0.trans (if_neg fun e => hg e.2.2))
      · rw [decide_eq_true (by omega)]
        tm_at "mm"
        exact ke' (e0.trans (if_neg fun e => hv e.2.1))
    · have et : t = true := ht.mpr (by
        by_cases hp1 : plainL (TL.tl p) = true
        · rw [(numD_non (TL.tl r)).mpr (Bool.eq_false_iff.mpr fun e => hp ⟨hp1, e⟩)]; simp
        · rw [(numD_non (TL.tl p)).mpr (Bool.eq_false_iff.mpr hp1)]; simp)
      subst et
      tm_at "mm"
      exact ke' (e0.trans (if_neg fun e => hp e.1))


theorem pool_ok {ns : List Int} {m : Led} {R : D → Led → Prop} {E : XR} (k : ∀ p, R (.ref p) (m ++ [(p, poolO 0 0 ns)])) : m_law_pool [.lsk (ns.map D.int)] m R E := by
  show fnK (b_law_pool _) m R E
  unfold b_law_pool
  tm_at "mm"
  exact newL_i (by simp) k
theorem take_ok {p : Addr} {a c many : Int} {ns : List Int} {rest : Led} {R : D → Led → Prop} {E : XR} (hn : ns.length ≤ 63) (h0 : 0 < many) (ha : 0 ≤ a) (ha2 : a ≤ 1000000) (hc : 0 ≤ c) (hb : Bd 4000 many)
    (k : ∀ r a' c' : Int, 0 ≤ r → r < many → a ≤ a' → a' ≤ a + 1 → 0 ≤ c' → R (.int r) ((p, poolO a' c' ns) :: rest)) : m_law_take [.ref p, .int many] ((p, poolO a c ns) :: rest) R E := by
  show fnM (b_law_take _ _) _ R E
  unfold b_law_take
  have Ba : Bd 40 a := by unfold Bd; omega
  have hz : ∃ z, atI (ns.map D.int ++ [D.int 0]) (a % max 1 (((ns.map D.int).length : Nat) : Int)) = some (.int z) := by
    have h1 : (0 : Int) < max 1 (((ns.map D.int).length : Nat) : Int) := by omega
    have h2 := Int.emod_nonneg a (Int.ne_of_gt h1)
    have h3 := Int.emod_lt_of_pos a h1
    obtain ⟨j, hj⟩ := Int.eq_ofNat_of_zero_le h2
    have h4 : j < (ns ++ [0]).length := by
      rw [hj, List.length_map] at h3
      simp only [List.length_append, List.length_cons, List.length_nil]
      omega
    refine ⟨(ns ++ [0])[j], ?_⟩
    rw [hj]
    refine atI_nat ?_
    rw [show ns.map D.int ++ [D.int 0] = (ns ++ [0]).map D.int by simp, List.getElem?_map, List.getElem?_eq_getElem h4]
    rfl
  obtain ⟨z, hz⟩ := hz
  tm_at "mm"
  refine ixR_i 0 rfl atI_1 ?_
  tm_at "mm"
  have tail : ∀ (a0 c0 : Int), a ≤ a0 → a0 ≤ a + 1 → 0 ≤ c0 → (bnd (bnd (bnd (bnd (bnd (DL.ret (.ref p)) fun x59 => bnd (DL.ret (.int 1)) fun x60 => ixM x59 x60) fun d61 => bnd (DL.ret []) fun ds62 => DL.ret (d61 :: ds62)) intM) fun x63 => bnd (DL.ret (.int many)) fun x64 => binM .Mod x63 x64) fun v_law_digit => bnd (bnd (bnd (DL.ret (.ref p)) fun x65 => bnd (DL.ret (.int 1)) fun x66 => ixM x65 x66) fun x67 => bnd (DL.ret (.int many)) fun x68 => binM .FloorDiv x67 x68) fun x69 => bnd (DL.ret (.ref p)) fun x70 => bnd (DL.ret (.int 1)) fun x71 => bnd (DL.stM x70 x71 x69) fun _ => bnd (DL.ret v_law_digit) rtM) ((p, poolO a0 c0 ns) :: rest) (fnR ((p, poolO a c ns) :: rest) R) (fun nm fd m' => E nm fd (m'.take ((p, poolO a c ns) :: rest).length)) := by
    intro a0 c0 h1 h2 h3
    tm_at "mm"
    refine ixR_i 0 rfl atI_1 ?_
    tm_at "mm"
    refine ixR_i 0 rfl atI_1 ?_
    tm_at "mm"
    refine fdiv_i (hb.divG (by omega) (by decide)) ?_
    tm_at "mm"
    refine st_i 0 1 rfl rfl ?_
    tm_at "mm"
    refine fnR_len rfl ?_
    have e : c0.fdiv many = c0 / many := Int.fdiv_eq_ediv_of_nonneg _ (Int.le_of_lt h0)
    rw [e]
    exact k _ a0 (c0 / many) (Int.emod_nonneg _ (Int.ne_of_gt h0)) (Int.emod_lt_of_pos _ h0) h1 h2 (Int.ediv_nonneg h3 (Int.le_of_lt h0))
  refine iteM_dec (fun h => ?_) (fun h => ?_)
  · tm_at "mm"
    refine ixR_i 0 rfl atI_0 ?_
    tm_at "mm"
    refine st_i 0 0 rfl rfl ?_
    tm_at "mm"
    refine ixR_i 0 rfl atI_2 ?_
    tm_at "mm"
    refine cat_i (by simp; omega) ?_
    tm_at "mm"
    refine ixR_i 0 rfl atI_2 ?_
    tm_at "mm"
    refine ixL_i hz ?_
    tm_at "mm"
    refine iteM_dec (fun h2 => ?_) (fun h2 => ?_)
    · tm_at "mm"
      refine fdiv_i ((Bd.lit 11).divG (by decide) (by decide)) ?_
      tm_at "mm"
      refine fnR_len rfl ?_
      exact k _ (a + 1) c (Int.emod_nonneg _ (Int.ne_of_gt h0)) (Int.emod_lt_of_pos _ h0) (by omega) (by omega) hc
    · tm_at "mm"
      refine st_i 0 1 rfl rfl ?_
      tm_at "mm"
      have hz0 : 0 ≤ z := by
        have e : (10 : Int) ^ Int.toNat 18 = 1000000000000000000 := by decide
        rw [e] at h2
        omega
      exact tail (a + 1) z (by omega) (by omega) hz0
  · tm_at "mm"
    exact tail a c (by omega) (by omega) hc

theorem law_divisor_ok {d : D} {ns : List Int} {m : Led} {R : D → Led → Prop} {E : XR} (hd : Seq d (ns.map D.int)) (k : R (.int (gL ns : Nat)) m) : m_law_divisor [d] m R E := by
  show fnM (b_law_divisor _) m R E
  unfold b_law_divisor
  tm_at "mm"
  have go : seqM d m = fun R (_ : XR) => R (ns.map D.int) m := by rcases hd with rfl | rfl <;> rfl
  rw [go]
  tm_at "mm"
  refine for_fold (e := D.int) (enc := fun g : Nat => D.int (g : Int)) (step := fun g n => Nat.gcd n.natAbs g) ns 0 (fun n _ g Q hq => ?_) ?_
  · tm_at "mm"
    refine while_ind (fun y s m2 => m2 = m ∧ ∃ x : Nat, Nat.gcd x y = Nat.gcd n.natAbs g ∧ s = (D.int (x : Nat), D.int (y : Nat))) ?_ g _ m ⟨rfl, n.natAbs, rfl, rfl⟩
    rintro y s m2 ⟨rfl, x, hg, rfl⟩ Q2 hy hn
    tm_at "mm"
    by_cases h0 : y = 0
    · subst h0
      rw [show (!decide (((0 : Nat) : Int) = 0)) = false from rfl]
      refine hn _ ?_
      tm_at "mm"
      rw [Nat.gcd_zero_right] at hg
      show Q (Fl.nx (D.int (x : Nat))) m2
      rw [hg]
      exact hq
    · rw [show (!decide (((y : Nat) : Int) = 0)) = true by simp; omega]
      refine hy _ fun Q3 h3 => ?_
      tm_at "mm"
      refine h3 _ _ (x % y) (Nat.mod_lt _ (by omega)) ⟨rfl, y, ?_, ?_⟩
      · rw [← hg, Nat.gcd_comm x y, Nat.gcd_rec y x, Nat.gcd_comm]
      · rw [Int.natCast_emod]
  · tm_at "mm"
    exact k

theorem law_ratio_ok {u d : Int} {m : Led} {R : D → Led → Prop} {E : XR} (hd : d ≠ 0) (hb : Bd 8000 d) (k : R (rat (mkQ u d)) m) : m_law_ratio [.int u, .int d] m R E := by
  show fnM (b_law_ratio _ _) m R E
  unfold b_law_ratio
  tm_at "mm"
  refine law_divisor_ok (ns := [u, d]) (.inl rfl) ?_
  rw [gL2]
  have hp := piece_bd (u := u) hd hb
  have hp0 := piece_ne (u := u) hd
  tm_at "mm"
  have fin : (bnd (bnd (bnd (bnd (DL.ret (D.int u)) fun x => bnd (DL.ret (D.int (piece u d))) fun y => binM .FloorDiv x y) fun d1 => bnd (bnd (bnd (DL.ret (D.int d)) fun x => bnd (DL.ret (D.int (piece u d))) fun y => binM .FloorDiv x y) fun d2 => bnd (DL.ret []) fun ds => DL.ret (d2 :: ds)) fun ds => DL.ret (d1 :: ds)) mkT) (rtM (σ := Unit) (τ := Empty))) m (fnR m R) (fun nm fd m' => E nm fd (m'.take m.length)) := by
    tm_at "mm"
    refine fdiv_i (hp.divG hp0 (by decide)) ?_
    tm_at "mm"
    refine fdiv_i (hp.divG hp0 (by decide)) ?_
    tm_at "mm"
    exact k
  refine iteM_dec (fun h => ?_) (fun h => ?_)
  · tm_at "mm"
    have e : -(Int.gcd u d : Int) = piece u d := by unfold piece; rw [if_pos h]
    rw [e]
    exact fin
  · tm_at "mm"
    have e : (Int.gcd u d : Int) = piece u d := by unfold piece; rw [if_neg h]
    rw [e]
    exact fin

local macro_rules | `(tactic| tm_at "st") => `(tactic| (with_reducible refine lenS_i (by first | assumption | omega) ?_))
local macro_rules | `(tactic| tm_at "st") => `(tactic| (with_reducible refine slX_s (by first | assumption | omega) ?_))
local macro_rules | `(tactic| tm_at "st") => `(tactic| (with_reducible refine strW_i ?_))
local macro_rules | `(tactic| tm_at "st") => `(tactic| (with_reducible refine chkS_i ?_))
local macro_rules | `(tactic| tm_at "st") => `(tactic| (with_reducible refine binX_i ?_))
local macro_rules | `(tactic| tm_at "st") => `(tactic| (with_reducible refine eq_s ?_))
local macro_rules | `(tactic| tm_at "st") => `(tactic| (with_reducible refine ne_s ?_))

def dueD (o : Option Q) : List D := match o with
  | some q => [rat q]
  | none => []
theorem law_read_ok {x : Str} {m : Led} {R : D → Led → Prop} {E : XR} (hl : x.length ≤ 100000) (k : R (.lst (dueD (rdV x))) m) : m_law_read [.str x] m R E := by
  show fnM (b_law_read _) m R E
  unfold b_law_read
  refine fnM_i ?_
  refine seqF_i ?_
  unfold tryM
  tm_at "bb"
  refine read_ratio_ok hl (fun q hq => ?_) (fun hn => ?_)
  · rw [hq] at k
    tm_at "mm"
    exact k
  · rw [hn] at k
    refine ⟨true, by decide, fun _ => ?_, fun z => nomatch z⟩
    tm_at "mm"
    exact k
theorem law_due_ok {x : Str} {m : Led} {R : D → Led → Prop} {E : XR} (hl : x.length ≤ 90000) (k : R (.lst (dueD (rdV x))) m) : m_law_due [.str x] m R E := by
  show fnM (b_law_due _) m R E
  unfold b_law_due
  have h1 := split_len x
  have h2 := split_part x
  have h3 := split_cuts x
  tm_at "mm"
  refine splX_i (by omega) ?_
  revert h1 h2 h3
  generalize Txt.split x "/" = ps
  intro h1 h2 h3
  tm_at "mm"
  by_cases h60 : 60 < x.length
  · rw [decide_eq_true (by omega)]
    tm_at "mm"
    have e : rdV x = none := if_pos h60
    rw [e] at k
    exact k
  have e0 : rdV x = match cuts (TL.tl x) with
    | [p] => if plainL p = true then some (valL p, 1) else none
    | [p, r] => if (plainL p = true ∧ plainL r = true) ∧ (2 ≤ valL r ∧ Int.gcd (valL p) (valL r) = 1) then some (valL p, valL r) else none
    | _ => none := if_neg h60
  rw [decide_eq_false (by omega)]
  tm_at "mm"
  match ps, h1, h2, h3 with
  | [], _, _, h3 => exact absurd h3.symm (cuts_ne _ _)
  | p :: r :: s :: t, _, _, h3 =>
    have h3 : cuts (TL.tl x) = TL.tl p :: TL.tl r :: TL.tl s :: t.map TL.tl := h3.symm
    rw [decide_eq_true (by simp only [List.length_map, List.length_cons]; omega)]
    tm_at "mm"
    rw [h3] at e0
    have e0 : rdV x = none := e0
    rw [e0] at k
    exact k
  | [p], h1, h2, h3 =>
    have h3 : cuts (TL.tl x) = [TL.tl p] := h3.symm
    rw [h3] at e0
    rw [decide_eq_false (by simp)]
    tm_at "mm"
    refine comp_map (e := D.str) (g := fun p => D.bl (plainL (TL.tl p))) [p] [] (fun z hz Q hq => ?_) (by simp) ?_
    · tm_at "mm"
      have := h2 z hz
      refine law_plain_ok (by omega) ?_
      tm_at "mm"
      exact hq
    rw [List.nil_append]
    tm_at "mm"
    refine all_L (bs := [plainL (TL.tl p)]) ?_
    tm_at "mm"
    by_cases hp : plainL (TL.tl p) = true
    · have ea : [plainL (TL.tl p)].all id = true := by rw [hp]; rfl
      rw [ea]
      have e2 : rdV x = some (valL (TL.tl p), 1) := e0.trans (if_pos hp)
      tm_at "mm"
      rw [decide_eq_true (by simp)]
      tm_at "mm"
      have ex := cut1 h3
      refine intX_s (by rw [ex]; exact hp) (by omega) ?_
      tm_at "mm"
      rw [ex]
      rw [e2] at k
      exact k
    · have ea : [plainL (TL.tl p)].all id = false := by rw [Bool.eq_false_iff.mpr hp]; rfl
      rw [ea]
      have e2 : rdV x = none := e0.trans (if_neg hp)
      tm_at "mm"
      rw [e2] at k
      exact k
  | [p, r], h1, h2, h3 =>
    have h3 : cuts (TL.tl x) = [TL.tl p, TL.tl r] := h3.symm
    rw [h3] at e0
    rw [decide_eq_false (by simp)]
    tm_at "mm"
    refine comp_map (e := D.str) (g := fun p => D.bl (plainL (TL.tl p))) [p, r] [] (fun z hz Q hq => ?_) (by simp) ?_
    · tm_at "mm"
      have := h2 z hz
      refine law_plain_ok (by omega) ?_
      tm_at "mm"
      exact hq
    rw [List.nil_append]
    tm_at "mm"
    refine all_L (bs := [plainL (TL.tl p), plainL (TL.tl r)]) ?_
    tm_at "mm"
    by_cases hp : plainL (TL.tl p) = true ∧ plainL (TL.tl r) = true
    · have ea : [plainL (TL.tl p), plainL (TL.tl r)].all id = true := by rw [hp.1, hp.2]; rfl
      rw [ea]
      have b1 := h2 p (by simp)
      have b2 := h2 r (by simp)
      have hb2 := val_bd hp.2 (by rw [TL.len_tl] at b2; omega)
      tm_at "mm"
      rw [decide_eq_false (by simp)]
      simp only [List.map_cons, List.map_nil]
      tm_at "mm"
      refine intX_s hp.1 (by omega) ?_
      tm_at "mm"
      refine intX_s hp.2 (by omega) ?_
      tm_at "mm"
      by_cases hv : 2 ≤ valL (TL.tl r)
      · rw [decide_eq_false (by omega)]
        tm_at "mm"
        refine law_divisor_ok (ns := [valL (TL.tl p), valL (TL.tl r)]) (.inl rfl) ?_
        rw [gL2]
        tm_at "mm"
        by_cases hg : Int.gcd (valL (TL.tl p)) (valL (TL.tl r)) = 1
        · have e4 : rdV x = some (valL (TL.tl p), valL (TL.tl r)) := e0.trans (if_pos ⟨hp, hv, hg⟩)
          rw [hg, decide_eq_true (show ((1 : Nat) : Int) = 1 from rfl)]
          tm_at "mm"
          rw [e4] at k
          exact k
        · have e4 : rdV x = none := e0.trans (if_neg fun e => hg e.2.2)
          rw [decide_eq_false (by omega)]
          tm_at "mm"
          rw [e4] at k
          exact k
      · have e4 : rdV x = none := e0.trans (if_neg fun e => hv e.2.1)
        rw [decide_eq_true (by omega)]
        tm_at "mm"
        rw [e4] at k
        exact k
    · have ea : [plainL (TL.tl p), plainL (TL.tl r)].all id = false := by
        cases e1 : plainL (TL.tl p) with
        | false => rfl
        | true => cases e2 : plainL (TL.tl r) with
          | false => rfl
          | true => exact absurd ⟨e1, e2⟩ hp
      rw [ea]
      have e2 : rdV x = none := e0.trans (if_neg fun e => hp e.1)
      tm_at "mm"
      rw [e2] at k
      exact k
theorem mul_len (x : Str) (n : Int) : (Txt.mul x n).length ≤ x.length * n.toNat := by
  unfold Txt.mul
  split
  · exact Nat.zero_le _
  · rename_i h
    split
    · have : 1 ≤ n.toNat := by omega
      exact Nat.le_mul_of_pos_right _ this
    · have key : ∀ (j : Nat) (a : Array Nat), ((List.replicate j x.cps).foldl (· ++ ·) a).size = a.size + x.cps.size * j := by
        intro j
        induction j with
        | zero => intro a; rfl
        | succ j ih =>
          intro a
          rw [List.replicate_succ, List.foldl_cons, ih, Array.size_append, Nat.mul_succ]
          omega
      show ((List.replicate n.toNat x.cps).foldl (· ++ ·) #[]).size ≤ x.cps.size * n.toNat
      rw [key]
      simp
theorem cut_len (z : Str) (lo hi : Option Int) : (cutS z lo hi).length ≤ z.length := cutS_length z lo hi
theorem atI_in {α : Type} {l : List α} {r : Int} (h0 : 0 ≤ r) (h1 : r < (l.length : Int)) : ∃ c, atI l r = some c ∧ c ∈ l := by
  obtain ⟨j, rfl⟩ := Int.eq_ofNat_of_zero_le h0
  have hj : j < l.length := by omega
  exact ⟨l[j], atI_nat (List.getElem?_eq_getElem hj), List.getElem_mem hj⟩


local macro_rules | `(tactic| tm_at "st") => `(tactic| (with_reducible refine lenS_i (by first | assumption | omega) ?_))
local macro_rules | `(tactic| tm_at "st") => `(tactic| (with_reducible refine slX_s (by first | assumption | omega) ?_))
local macro_rules | `(tactic| tm_at "st") => `(tactic| (with_reducible refine strW_i ?_))
local macro_rules | `(tactic| tm_at "st") => `(tactic| (with_reducible refine chkS_i ?_))
local macro_rules | `(tactic| tm_at "st") => `(tactic| (with_reducible refine binX_i ?_))
local macro_rules | `(tactic| tm_at "st") => `(tactic| (with_reducible refine eq_s ?_))
local macro_rules | `(tactic| tm_at "st") => `(tactic| (with_reducible refine ne_s ?_))

theorem cut_to_len (z : Str) (k : Nat) : (cutS z none (some (k : Int))).length ≤ k := by
  rw [TL.len_tl, cut_to, List.length_take]
  omega
theorem cut_from_len (z : Str) (k : Nat) : (cutS z (some (k : Int)) none).length = z.length - k := by
  rw [TL.len_tl, cut_from, List.length_drop, ← TL.len_tl]
theorem cut_from_len1 (z : Str) (k : Nat) : (cutS z (some ((k : Int) + 1)) none).length = z.length - (k + 1) := by
  rw [show (k : Int) + 1 = ((k + 1 : Nat) : Int) by omega, cut_from_len]
theorem law_spoiled_ok {p : Addr} {a c : Int} {ns : List Int} {rest : Led} {x : Str} {R : D → Led → Prop} {E : XR} (hn : ns.length ≤ 63) (ha : 0 ≤ a) (ha2 : a ≤ 900000) (hc : 0 ≤ c) (hx : x.length ≤ 80000)
    (k : ∀ (y : Str) (a' c' : Int), y.length ≤ x.length + 5001 → a ≤ a' → a' ≤ a + 4 → 0 ≤ c' → R (.str y) ((p, poolO a' c' ns) :: rest)) : m_law_spoiled [.ref p, .str x] ((p, poolO a c ns) :: rest) R E := by
  show fnM (b_law_spoiled _ _) _ R E
  unfold b_law_spoiled
  tm_at "mm"
  refine take_ok hn (by decide) ha (by omega) hc ((Bd.lit _).up (by decide)) fun kd a1 c1 r0 r1 x1 x2 x3 => ?_
  tm_at "mm"
  refine take_ok hn (by omega) (by omega) (by omega) x3 ?_ fun at_ a2 c2 r2 r3 y1 y2 y3 => ?_
  · have : Bd 40 ((x.length : Int) + 1) := by unfold Bd; omega
    exact this.up (by decide)
  obtain ⟨at_, rfl⟩ := Int.eq_ofNat_of_zero_le r2
  tm_at "mm"
  refine take_ok hn (by decide) (by omega) (by omega) y3 ((Bd.lit _).up (by decide)) fun r a3 c3 r4 r5 z1 z2 z3 => ?_
  have ldig : TL.tl ("0123456789-+/. a_" : Str) = [48, 49, 50, 51, 52, 53, 54, 55, 56, 57, 45, 43, 47, 46, 32, 97, 95] := by decide +kernel
  obtain ⟨s, hs, _⟩ := atI_in (l := TL.tl ("0123456789-+/. a_" : Str)) r4 (by rw [ldig]; simpa using r5)
  refine ixS_i (by decide) hs ?_
  have ls : (⟨#[s]⟩ : Str).length = 1 := rfl
  have lc := cut_len x
  have fin : ∀ y : Str, y.length ≤ x.length + 5001 → ∀ a' c' : Int, a3 ≤ a' → a' ≤ a3 + 1 → 0 ≤ c' → fnR ((p, poolO a c ns) :: rest) R (.rt (.str y)) ((p, poolO a' c' ns) :: rest) := fun y hy a' c' h1 h2 h3 => fnR_len rfl (k y a' c' hy (by omega) (by omega) h3)
  tm_at "mm"
  refine iteM_dec (fun h => ?_) (fun h => ?_)
  · tm_at "mm"
    have l0 := lc none (some (at_ : Int))
    have l1 := cut_to_len x at_
    have l2 := cut_from_len x at_
    refine binX_s (by omega) ?_
    tm_at "mm"
    refine binX_s (by rw [lenApp]; omega) ?_
    tm_at "mm"
    exact fin _ (by rw [lenApp, lenApp]; omega) _ _ (by omega) (by omega) z3
  tm_at "mm"
  refine iteM_dec (fun h => ?_) (fun h => ?_)
  · tm_at "mm"
    have l0 := lc none (some (at_ : Int))
    have l1 := cut_to_len x at_
    have l2 := cut_from_len1 x at_
    refine binX_s (by omega) ?_
    tm_at "mm"
    exact fin _ (by rw [lenApp]; omega) _ _ (by omega) (by omega) z3
  tm_at "mm"
  refine iteM_dec (fun h => ?_) (fun h => ?_)
  · tm_at "mm"
    have l0 := lc none (some (at_ : Int))
    have l1 := cut_to_len x at_
    have l2 := cut_from_len1 x at_
    refine binX_s (by omega) ?_
    tm_at "mm"
    refine binX_s (by rw [lenApp]; omega) ?_
    tm_at "mm"
    exact fin _ (by rw [lenApp, lenApp]; omega) _ _ (by omega) (by omega) z3
  tm_at "mm"
  refine iteM_dec (fun h => ?_) (fun h => ?_)
  · tm_at "mm"
    refine take_ok hn (by decide) (by omega) (by omega) z3 ((Bd.lit _).up (by decide)) fun g a4 c4 g0 g1 w1 w2 w3 => ?_
    tm_at "mm"
    have hm : ∃ N : Int, 0 ≤ N ∧ N ≤ 5000 ∧ atI [D.int g, D.int 5000] (if decide ((at_ : Int) = 0) = true then 1 else 0) = some (.int N) := by
      by_cases e : (at_ : Int) = 0
      · exact ⟨5000, by decide, by decide, by rw [decide_eq_true e]; rfl⟩
      · exact ⟨g, by omega, by omega, by rw [decide_eq_false e]; rfl⟩
    obtain ⟨N, n0, n1, hN⟩ := hm
    refine ixL_i hN ?_
    tm_at "mm"
    refine binX_m (by decide) (by omega) (by omega) ?_
    have lm := mul_len ("0" : Str) N
    have l0 : ("0" : Str).length = 1 := rfl
    rw [l0] at lm
    tm_at "mm"
    refine binX_s (by omega) ?_
    tm_at "mm"
    exact fin _ (by rw [lenApp]; omega) _ _ (by omega) (by omega) w3
  tm_at "mm"
  refine binX_m (by decide) (by decide) (by decide) ?_
  tm_at "mm"
  have m1 := mul_len ("0" : Str) 59
  have m2 := mul_len ("0" : Str) 60
  have l0 : ("0" : Str).length = 1 := rfl
  have l1 : ("1" : Str).length = 1 := rfl
  have l2 : (" " : Str).length = 1 := rfl
  have l3 : ("\n" : Str).length = 1 := rfl
  rw [l0] at m1 m2
  refine binX_s (by omega) ?_
  tm_at "mm"
  refine binX_m (by decide) (by decide) (by decide) ?_
  tm_at "mm"
  refine binX_s (by omega) ?_
  tm_at "mm"
  refine cat_i (by first | decide | simp) ?_
  tm_at "mm"
  refine binX_s (by omega) ?_
  tm_at "mm"
  refine binX_s (by omega) ?_
  tm_at "mm"
  refine binX_s (by omega) ?_
  tm_at "mm"
  refine binX_s (by omega) ?_
  tm_at "mm"
  refine Or.inr (.inr ?_)
  refine cat_i (by first | decide | simp) ?_
  tm_at "mm"
  refine take_ok hn (by decide) (by omega) (by omega) z3 ((Bd.lit _).up (by decide)) fun g a4 c4 g0 g1 w1 w2 w3 => ?_
  have hz : ∃ y : Str, y.length ≤ x.length + 61 ∧ atI (([("" : Str), "-", "/", "0", "-0", "00", "1/1", "2/4", "1/-2", "-1/2", "1/0", "0/1", "0/2", "1/", "/2", "1/2/3", "+1", "1" ++ Txt.mul "0" 59, "1" ++ Txt.mul "0" 60, x, " " ++ x, x ++ " ", x ++ "\n", "\n" ++ x]).map D.str) g = some (.str y) := by
    obtain ⟨d, hd, hm⟩ := atI_in (l := (([("" : Str), "-", "/", "0", "-0", "00", "1/1", "2/4", "1/-2", "-1/2", "1/0", "0/1", "0/2", "1/", "/2", "1/2/3", "+1", "1" ++ Txt.mul "0" 59, "1" ++ Txt.mul "0" 60, x, " " ++ x, x ++ " ", x ++ "\n", "\n" ++ x]).map D.str)) g0 (by simpa using g1)
    obtain ⟨y, hy, rfl⟩ := List.mem_map.mp hm
    refine ⟨y, ?_, hd⟩
    have sm : ∀ z : Str, z ∈ ([("" : Str), "-", "/", "0", "-0", "00", "1/1", "2/4", "1/-2", "-1/2", "1/0", "0/1", "0/2", "1/", "/2", "1/2/3", "+1"] : List Str) → z.length ≤ 61 := by decide +kernel
    have hy : y ∈ ([("" : Str), "-", "/", "0", "-0", "00", "1/1", "2/4", "1/-2", "-1/2", "1/0", "0/1", "0/2", "1/", "/2", "1/2/3", "+1"] : List Str) ++ ["1" ++ Txt.mul "0" 59, "1" ++ Txt.mul "0" 60, x, " " ++ x, x ++ " ", x ++ "\n", "\n" ++ x] := hy
    rcases List.mem_append.mp hy with h | h
    · have := sm y h
      omega
    · simp only [List.mem_cons, List.not_mem_nil, or_false] at h
      rcases h with rfl | rfl | rfl | rfl | rfl | rfl | rfl
      · rw [lenApp]; omega
      · rw [lenApp]; omega
      · omega
      · rw [lenApp]; omega
      · rw [lenApp]; omega
      · rw [lenApp]; omega
      · rw [lenApp]; omega
  obtain ⟨y, hy, hg⟩ := hz
  refine ixL_i hg ?_
  tm_at "mm"
  exact fin _ (by omega) _ _ (by omega) (by omega) w3


local macro_rules | `(tactic| tm_at "st") => `(tactic| (with_reducible refine lenS_i (by first | assumption | omega) ?_))
local macro_rules | `(tactic| tm_at "st") => `(tactic| (with_reducible refine slX_s (by first | assumption | omega) ?_))
local macro_rules | `(tactic| tm_at "st") => `(tactic| (with_reducible refine strW_i ?_))
local macro_rules | `(tactic| tm_at "st") => `(tactic| (with_reducible refine chkS_i ?_))
local macro_rules | `(tactic| tm_at "st") => `(tactic| (with_reducible refine binX_i ?_))
local macro_rules | `(tactic| tm_at "st") => `(tactic| (with_reducible refine eq_s ?_))
local macro_rules | `(tactic| tm_at "st") => `(tactic| (with_reducible refine ne_s ?_))

theorem seqF_kp {σ σ' τ : Type} {m : Led} {E : XR} {k : σ → M (Fl σ' τ)} {c : M (Fl σ τ)} {R : Fl σ' τ → Led → Prop} (P : σ → Led → Prop) (hc : ∀ R' : Fl σ τ → Led → Prop, (∀ s m', P s m' → R' (.nx s) m') → c m R' E) (hk : ∀ s m', P s m' → k s m' R E) : seqF c k m R E :=
  seqF_i (hc _ fun s m' h => seqK_nx (hk s m' h))
theorem rd_bd {x : Str} {q : Q} (h : rdV x = some q) : Bd 1900 q.1 ∧ Bd 1900 q.2 := by
  unfold rdV at h
  split at h
  · cases h
  · rename_i hl
    have hp := spl_part (TL.tl x) []
    have hl : (TL.tl x).length ≤ 60 := by rw [← TL.len_tl]; omega
    split at h
    · rename_i p e
      split at h
      · rename_i h1
        injection h with h
        subst h
        have := hp p (by rw [show TL.spl [47] 0 [] (TL.tl x) = [p] from e]; simp)
        exact ⟨(val_bd h1 (by simpa using Nat.le_trans this (by simpa using hl))).up (by decide), Bd.one.up (by decide)⟩
      · cases h
    · rename_i p r e
      split at h
      · rename_i h1
        injection h with h
        subst h
        have g1 := hp p (by rw [show TL.spl [47] 0 [] (TL.tl x) = [p, r] from e]; simp)
        have g2 := hp r (by rw [show TL.spl [47] 0 [] (TL.tl x) = [p, r] from e]; simp)
        simp only [List.length_nil, Nat.zero_add] at g1 g2
        exact ⟨(val_bd h1.1.1 (by omega)).up (by decide), (val_bd h1.1.2 (by omega)).up (by decide)⟩
      · cases h
    · cases h
theorem due_nb (o : Option Q) : NB 20 (.lst (dueD o)) := by
  cases o with
  | none => intro d hd; cases hd
  | some q =>
    intro d hd
    rw [List.mem_singleton.mp hd]
    intro d hd
    rcases List.mem_cons.mp hd with rfl | hd
    · trivial
    · rw [List.mem_singleton.mp hd]; trivial
theorem main_law (ns : List Int) (hl : ns.length ≤ 63) (R : D → Led → Prop) (hR : ∀ m', R (.bl true) m') : m_law [.lsk (ns.map D.int)] [] R NoX := by
  unfold m_law; tm_at "en"; unfold b_law
  tm_at "mm"
  refine pool_ok fun p => ?_
  rw [List.nil_append]
  tm_at "mm"
  refine take_ok hl (by decide) (by decide) (by decide) (by decide) ((Bd.lit _).up (by decide)) fun r a1 c1 r0 r1 x1 x2 x3 => ?_
  obtain ⟨S, s0, s1, hS⟩ : ∃ S : Int, 9 ≤ S ∧ S ≤ 100000000000000000000000000000 ∧ atI [D.int 9, D.int (10 ^ Int.toNat 29)] r = some (.int S) := by
    have hr : r = 0 ∨ r = 1 := by omega
    rcases hr with rfl | rfl
    · exact ⟨9, by decide, by decide, rfl⟩
    · exact ⟨_, by decide, by decide, rfl⟩
  refine ixL_i hS ?_
  tm_at "mm"
  have bS : Bd 100 S := by unfold Bd; omega
  refine mul_i (Bd.mul (Bd.lit 2) bS (by decide)) ?_
  tm_at "mm"
  refine take_ok hl (by omega) (by omega) (by omega) x3 (show Bd 4000 (2 * S + 1) from (show Bd 120 (2 * S + 1) by unfold Bd; omega).up (by decide)) fun u a2 c2 u0 u1 y1 y2 y3 => ?_
  tm_at "mm"
  refine take_ok hl (by decide) (by omega) (by omega) y3 ((Bd.lit _).up (by decide)) fun r2 a3 c3 r3 r4 z1 z2 z3 => ?_
  obtain ⟨T, t0, t1, hT⟩ : ∃ T : Int, 9 ≤ T ∧ T ≤ 100000000000000000000 ∧ atI [D.int 9, D.int (10 ^ Int.toNat 20)] r2 = some (.int T) := by
    have hr : r2 = 0 ∨ r2 = 1 := by omega
    rcases hr with rfl | rfl
    · exact ⟨9, by decide, by decide, rfl⟩
    · exact ⟨_, by decide, by decide, rfl⟩
  refine ixL_i hT ?_
  tm_at "mm"
  refine take_ok hl (by omega) (by omega) (by omega) z3 (show Bd 4000 T from (show Bd 120 T by unfold Bd; omega).up (by decide)) fun w a4 c4 w0 w1 v1 v2 v3 => ?_
  tm_at "mm"
  have bd : Bd 67 (1 + w) := by unfold Bd; omega
  have bu : Bd 97 (u - S) := by unfold Bd; omega
  refine law_ratio_ok (by omega) (bd.up (by decide)) ?_
  have hb := mkQ_bd (show (1 + w) ≠ 0 by omega) bu bd
  have hn := mkQ_nf (u := u - S) (show (1 + w) ≠ 0 by omega)
  revert hb hn
  generalize mkQ (u - S) (1 + w) = q
  intro hb hn
  have lt : (ratT q).length ≤ 60 := by
    have h1 : (txt q.1).length ≤ 31 := txt_len10 (k := 30) (by decide) (Nat.lt_of_lt_of_le hb.1 (by decide +kernel))
    have h2 : (txt q.2).length ≤ 22 := txt_len10 (k := 21) (by decide) (Nat.lt_of_lt_of_le hb.2 (by decide +kernel))
    have h3 : ("/" : Str).length = 1 := rfl
    unfold ratT
    split
    · omega
    · rw [lenApp, lenApp]; omega
  have erd : rdV (ratT q) = some q := rd_txt lt hn.2 hn.1
  have hb1 : Bd 1900 q.1 := hb.1.up (by decide)
  have hb2 : Bd 1900 q.2 := hb.2.up (by decide)
  tm_at "mm"
  refine strX_i (bd_log hb1) ?_
  tm_at "mm"
  refine iteM_go (Fl.nx (D.str (ratT q))) (fun h P z => ?_) (fun h P z => ?_) ?_
  · have h : ¬ q.2 = 1 := by simpa using h
    have e : ratT q = txt q.1 ++ "/" ++ txt q.2 := if_neg h
    have l1 := txt_len hb1
    have l2 := txt_len hb2
    have h3 : ("/" : Str).length = 1 := rfl
    rw [e] at z
    tm_at "mm"
    refine binX_s (by omega) ?_
    tm_at "mm"
    refine strX_i (bd_log hb2) ?_
    tm_at "mm"
    refine binX_s (by rw [lenApp]; omega) ?_
    tm_at "mm"
    exact z
  · have h : q.2 = 1 := by simpa using h
    have e : ratT q = txt q.1 := if_pos h
    rw [e] at z
    tm_at "mm"
    exact z
  tm_at "mm"
  refine ratio_text_ok hb1 hb2 ?_
  tm_at "mm"
  rw [show (!decide (ratT q = ratT q)) = false by rw [decide_eq_true rfl]; rfl]
  tm_at "mm"
  refine law_read_ok (x := ratT q) (by omega) ?_
  rw [erd]
  tm_at "mm"
  refine ne_dt (due_nb (some q)) ?_
  tm_at "mm"
  refine take_ok hl (by decide) (by omega) (by omega) v3 ((Bd.lit _).up (by decide)) fun n a5 c5 n0 n1 k1 k2 k3 => ?_
  tm_at "mm"
  refine rng_i (by omega) (by omega) ?_
  rw [rangeD_map]
  refine seqF_kp (fun s m' => ∃ (y : Str) (a' c' : Int), s = .str y ∧ y.length ≤ 20000 ∧ 0 ≤ a' ∧ a' ≤ 100 ∧ 0 ≤ c' ∧ m' = (p, poolO a' c' ns) :: []) (fun R' hR => ?_) ?_
  · refine for_ind (e := fun k : Nat => D.int (k : Int)) (fun xs s m' => ∃ (y : Str) (a' c' : Int), s = .str y ∧ xs.length ≤ 2 ∧ y.length ≤ 20000 - 6000 * xs.length ∧ 0 ≤ a' ∧ a' ≤ 100 - 10 * xs.length ∧ 0 ≤ c' ∧ m' = (p, poolO a' c' ns) :: []) ?_ ?_ _ _ _ ⟨ratT q, a5, c5, rfl, by simp; omega, by simp; omega, by omega, by simp; omega, k3, rfl⟩
    · rintro x xs s m' ⟨y, a', c', rfl, h1, h2, h3, h4, h5, rfl⟩ Q q1 _ _
      simp only [List.length_cons] at h1 h2 h4
      tm_at "mm"
      refine law_spoiled_ok hl h3 (by omega) h5 (by omega) fun y2 a2 c2 g1 g2 g3 g4 => ?_
      tm_at "mm"
      exact q1 _ _ ⟨y2, a2, c2, rfl, by omega, by omega, by omega, by omega, g4, rfl⟩
    · rintro s m' ⟨y, a', c', rfl, h1, h2, h3, h4, h5, rfl⟩
      exact hR _ _ ⟨y, a', c', rfl, by simpa using h2, h3, by simpa using h4, h5, rfl⟩
  rintro _ _ ⟨y, a6, c6, rfl, hy, g1, g2, g3, rfl⟩
  tm_at "mm"
  refine law_read_ok (x := y) (by omega) ?_
  tm_at "mm"
  refine law_due_ok (x := y) (by omega) ?_
  tm_at "mm"
  refine eq_dt (due_nb _) ?_
  tm_at "mm"
  cases e : rdV y with
  | none =>
    refine eq_dt (due_nb none) ?_
    tm_at "mm"
    refine orM_i (fun _ => ?_) (fun h => nomatch h)
    tm_at "mm"
    exact hR _
  | some q2 =>
    refine eq_di (due_nb (some q2)) (due_nb none) fun t ht => ?_
    have et : t = false := by
      cases t with
      | false => rfl
      | true => exact absurd (ht.mp rfl) (by intro z; injection z with z; cases z)
    subst et
    have hq := rd_bd e
    tm_at "mm"
    refine orM_i (fun h => nomatch h) (fun _ => ?_)
    tm_at "mm"
    refine ixL_i (show atI (dueD (some q2)) 0 = some (rat q2) from rfl) ?_
    tm_at "mm"
    refine ratio_text_ok hq.1 hq.2 ?_
    tm_at "mm"
    rw [decide_eq_true (rd_back e)]
    tm_at "mm"
    exact hR _


end K12
namespace DL
open PySem PySem.Spec PyProof.Rows L2

/-! ### the head by one kernel run: all that the end leans on is read off the heap behind the top, as one Bool and the defs' own texts -/
/-- a class of errors -/
theorem clsB_ok {K : PySem.W.Frag} {C : Addr} (h : clsB K C = true) : ∃ nm qq N bs bm sn sub ab col dd k0 k1 k2 k3 k5, K.lookup C = some (excClassObj nm qq C N bs bm true sn sub ab col dd k0 k1 k2 k3 k5 "ValueError.__new__") ∧ PySem.HandSPX.refsVE bm = true := by
  unfold clsB at h
  split at h
  · rename_i t dd nm bs a bm N qq hd sn sub ab col hdel sl e
    obtain ⟨h1, h⟩ := He.ba h
    obtain ⟨h2, h⟩ := He.ba h
    obtain ⟨h3, h⟩ := He.ba h
    obtain ⟨h4, h⟩ := He.ba h
    obtain ⟨h5, h⟩ := He.ba h
    split at h
    · rename_i k0 k1 k2 k3 b k5 es
      have e1 := of_decide_eq_true h1
      have e2 := of_decide_eq_true h2
      have e3 := of_decide_eq_true h
      have e5 : hdel = false := by simpa using h5
      subst e1 e2 e3 h4 e5
      have esl : sl = #[k0, k1, k2, k3, some (.builtin "ValueError.__new__"), k5] := by
        rw [← Array.toArray_toList (xs := sl), es]
      subst esl
      exact ⟨nm, qq, N, bs, bm, sn, sub, ab, col, dd, k0, k1, k2, k3, k5, e, h3⟩
    · cases h
  · cases h
/-- a class of errors and the def of its __init__ -/
theorem codB_ok {K : PySem.W.Frag} {file : Str} {C : Addr} {q : Str} {fd : FuncData} (h : codB K file C q fd = true) : PySem.W.codeIn K fd.code q = true ∧
    (∃ cda, fd.code = .ref cda ∧ ∃ ccl cdd vs ccs f tf, K.lookup cda = some ⟨ccl, cdd, .fields vs, ccs⟩ ∧ vs[2]? = some (Value.str f tf) ∧ (file == f) = true) ∧ ∃ nn cc, fd.closure = [(nn, cc)] ∧ ∃ cl cld csl, K.lookup cc = some ⟨cl, cld, .cell (some (.ref C)), csl⟩ := by
  unfold codB at h
  obtain ⟨h1, h⟩ := He.ba h
  obtain ⟨h2, h3⟩ := He.ba h
  refine ⟨h1, ?_, ?_⟩
  · split at h2
    · rename_i cda e
      split at h2
      · rename_i ccl cdd vs ccs lc
        split at h2
        · rename_i f tf hv
          exact ⟨cda, e, ccl, cdd, vs, ccs, f, tf, lc, hv, h2⟩
        · cases h2
      · cases h2
    · cases h2
  · split at h3
    · rename_i nn cc e
      split at h3
      · rename_i cl cld C' csl lcc
        have eC := of_decide_eq_true h3
        subst eC
        exact ⟨nn, cc, e, cl, cld, csl, lcc⟩
      · cases h3
    · cases h3
theorem xc_ok {P : Program} {K : PySem.W.Frag} {mg : Str → Option Value} {d : XcD} (e : xW K d.cls = d.val) (c : xcB K P.main.file d = true) (qx : PySem.W.nsIn K cStatics "thirdparty.any" = some none) (zs : mg "super" = none) (tp : (P.main.scope.names.lookup ("super" : Str)).isSome = false) :
    ∃ cc cda kV doc pm an ct, XIn P K mg (He.ga K d.cls) (He.ma K (He.ga K d.cls) "__init__") cc cda d.qual (fnC "__init__" d.qual d.st cc cda kV doc pm an ct) := by
  obtain ⟨c0, c⟩ := He.ba c
  obtain ⟨c1, c⟩ := He.ba c
  obtain ⟨c2, c⟩ := He.ba c
  obtain ⟨c3, c⟩ := He.ba c
  obtain ⟨c4, c⟩ := He.ba c
  obtain ⟨c5, c⟩ := He.ba c
  obtain ⟨c6, c⟩ := He.ba c
  obtain ⟨c7, c⟩ := He.ba c
  obtain ⟨c8, c⟩ := He.ba c
  obtain ⟨c9, c⟩ := He.ba c
  obtain ⟨cA, c⟩ := He.ba c
  obtain ⟨nm, qq, N, bs, bm, sn, sub, ab, col, dd, k0, k1, k2, k3, k5, lx, rx⟩ := clsB_ok c0
  unfold xW at e
  split at c
  · rename_i oc od fd osl q
    rw [q] at e
    obtain ⟨n1, n2, n3, n4, n5, n6, n7, n8, n9, n10, n11, n12, n13, n14, n15⟩ := fd
    have e2 : (some (n1, n2, n3, n4, n5, n6, n7.map (·.1), n8, n15) : XW) = some (("__init__" : Str), d.qual, defArgs d.st, FuncBody.stmts (defBody d.st), defScope d.st, mainGlobals, [("__class__" : Str)], Value.none, builtinsNs) := e
    simp only [Option.some.injEq, Prod.mk.injEq] at e2
    obtain ⟨h1, h2, h3, h4, h5, h6, h7, h8, h9⟩ := e2
    subst h1 h2 h3 h4 h5 h6 h8 h9
    obtain ⟨k1', ⟨cda, rfl, ccl, cdd, vs, ccs, file, tf, lc, hv, hf⟩, nn, cc, rfl, cl, cld, csl, lcc⟩ := codB_ok c
    have en : nn = "__class__" := by simpa using h7
    subst en
    exact ⟨cc, cda, n9, n10, n11, n12, n14, xin_mk lx rx (He.eqO_ok c1) (of_decide_eq_true c2) (of_decide_eq_true c3) c4 (He.eqO_ok c5) (of_decide_eq_true c6) q k1' lc hv hf lcc (He.eqO_ok c7) (of_decide_eq_true c8) (of_decide_eq_true c9) qx cA zs tp⟩
  · cases c
/-- a name of the module that holds a plain value -/
theorem glB_ok {K : PySem.W.Frag} {x : Str} {v : V} (h : glB K x v = true) : ∃ u, PySem.W.nsIn K mainGlobals x = some (some u) ∧ RelV v u := by
  unfold glB at h
  split at h
  · exact ⟨_, by assumption, He.relB_ok h⟩
  · cases h
section
variable {file : Str} {fs : List (PySem.W.Frag → Bool)} {fn : List He.DefD} {xs : List XcD} {K : PySem.W.Frag}
theorem SaysK.b (c : SaysK file fs fn xs K) : ((fs.all fun f => f K) && ((fn.all fun d => d.ok K) && xs.all fun d => xcB K file d)) = true := congrArg (fun z : AlK => z.1) c
theorem SaysK.fact (c : SaysK file fs fn xs K) (i : Nat) {f : PySem.W.Frag → Bool} (h : fs[i]? = some f := by rfl) : f K = true := List.all_eq_true.mp (He.ba c.b).1 f (List.mem_of_getElem? h)
theorem SaysK.def_ (c : SaysK file fs fn xs K) (i : Nat) {d : He.DefD} (h : fn[i]? = some d := by rfl) : ∃ fd, FunD K d.name d.qual d.params d.body d.scope (d.dvs K) (d.kws K) (He.fAd K d.at_) fd := by
  have e : fn.map (fun d => He.fnW K d.at_) = fn.map He.DefD.val := congrArg (fun z : AlK => z.2.1) c
  have e2 : (fn.map fun d => He.fnW K d.at_)[i]? = (fn.map He.DefD.val)[i]? := by rw [e]
  rw [List.getElem?_map, List.getElem?_map, h] at e2
  exact He.DefD.funD (Option.some.inj e2) (List.all_eq_true.mp (He.ba (He.ba c.b).2).1 d (List.mem_of_getElem? h))
theorem SaysK.xc {P : Program} {mg : Str → Option Value} (c : SaysK P.main.file fs fn xs K) (i : Nat) {d : XcD} (h : xs[i]? = some d) (qx : PySem.W.nsIn K cStatics "thirdparty.any" = some none) (zs : mg "super" = none) (tp : (P.main.scope.names.lookup ("super" : Str)).isSome = false) :
    ∃ cc cda kV doc pm an ct, XIn P K mg (He.ga K d.cls) (He.ma K (He.ga K d.cls) "__init__") cc cda d.qual (fnC "__init__" d.qual d.st cc cda kV doc pm an ct) := by
  have e : xs.map (fun d => xW K d.cls) = xs.map XcD.val := congrArg (fun z : AlK => z.2.2) c
  have e2 : (xs.map fun d => xW K d.cls)[i]? = (xs.map XcD.val)[i]? := by rw [e]
  rw [List.getElem?_map, List.getElem?_map, h] at e2
  exact xc_ok (Option.some.inj e2) (List.all_eq_true.mp (He.ba (He.ba c.b).2).2 d (List.mem_of_getElem? h)) qx zs tp
end
end DL


namespace K12
open PySem PySem.Spec PyProof.Rows L2 DL
abbrev s_BadRatio__init__ : Stmt := DL.inClass (topS 2) 0
abbrev s_BadText__init__ : Stmt := DL.inClass (topS 3) 0
theorem all_mk {w : World} {K : PySem.W.Frag} {h : Heap} {mg : Str → Option Value} {fa : Addr} (X : K.In h) (G : h.Ns mainGlobals mg) (hfa : mg "law" = some (.ref fa)) (c : SaysK PySem.Challenge.pw_leastcomplaint_k12_texts_of_ratios.main.file hdB hdF hdX K)
    : ∃ fd : FuncData, (∀ (s : Shared) (v : Value), BindsTo s fd ⟨[v], []⟩ [("_law_script", v)]) ∧ ∀ base : Heap, K.In base → base.Ns mainGlobals mg → FnOk PySem.Challenge.pw_leastcomplaint_k12_texts_of_ratios w K mg base CX0 5 fa fd ["_law_script"] (lift K fun ds m R => m_law ds m R NoX) := by
  have a0 : PySem.W.nsIn K mainGlobals "_law_pool" = some (some (.ref (He.ga K "_law_pool"))) := He.eqO_ok (c.fact 0 rfl)
  have k0 : PySem.W.keepIn K (.ref (He.ga K "_law_pool")) = true := (c.fact 1 rfl)
  have a1 : PySem.W.nsIn K mainGlobals "_law_divisor" = some (some (.ref (He.ga K "_law_divisor"))) := He.eqO_ok (c.fact 2 rfl)
  have k1 : PySem.W.keepIn K (.ref (He.ga K "_law_divisor")) = true := (c.fact 3 rfl)
  have a2 : PySem.W.nsIn K mainGlobals "_law_ratio" = some (some (.ref (He.ga K "_law_ratio"))) := He.eqO_ok (c.fact 4 rfl)
  have k2 : PySem.W.keepIn K (.ref (He.ga K "_law_ratio")) = true := (c.fact 5 rfl)
  have a3 : PySem.W.nsIn K mainGlobals "read_integer" = some (some (.ref (He.ga K "read_integer"))) := He.eqO_ok (c.fact 6 rfl)
  have k3 : PySem.W.keepIn K (.ref (He.ga K "read_integer")) = true := (c.fact 7 rfl)
  have a4 : PySem.W.nsIn K mainGlobals "divisor" = some (some (.ref (He.ga K "divisor"))) := He.eqO_ok (c.fact 8 rfl)
  have k4 : PySem.W.keepIn K (.ref (He.ga K "divisor")) = true := (c.fact 9 rfl)
  have a5 : PySem.W.nsIn K mainGlobals "ratio" = some (some (.ref (He.ga K "ratio"))) := He.eqO_ok (c.fact 10 rfl)
  have k5 : PySem.W.keepIn K (.ref (He.ga K "ratio")) = true := (c.fact 11 rfl)
  have a6 : PySem.W.nsIn K mainGlobals "ratio_text" = some (some (.ref (He.ga K "ratio_text"))) := He.eqO_ok (c.fact 12 rfl)
  have k6 : PySem.W.keepIn K (.ref (He.ga K "ratio_text")) = true := (c.fact 13 rfl)
  have a7 : PySem.W.nsIn K mainGlobals "read_ratio" = some (some (.ref (He.ga K "read_ratio"))) := He.eqO_ok (c.fact 14 rfl)
  have k7 : PySem.W.keepIn K (.ref (He.ga K "read_ratio")) = true := (c.fact 15 rfl)
  have a8 : PySem.W.nsIn K mainGlobals "_law_read" = some (some (.ref (He.ga K "_law_read"))) := He.eqO_ok (c.fact 16 rfl)
  have k8 : PySem.W.keepIn K (.ref (He.ga K "_law_read")) = true := (c.fact 17 rfl)
  have a9 : PySem.W.nsIn K mainGlobals "_law_take" = some (some (.ref (He.ga K "_law_take"))) := He.eqO_ok (c.fact 18 rfl)
  have k9 : PySem.W.keepIn K (.ref (He.ga K "_law_take")) = true := (c.fact 19 rfl)
  have a10 : PySem.W.nsIn K mainGlobals "_law_spoiled" = some (some (.ref (He.ga K "_law_spoiled"))) := He.eqO_ok (c.fact 20 rfl)
  have k10 : PySem.W.keepIn K (.ref (He.ga K "_law_spoiled")) = true := (c.fact 21 rfl)
  have a11 : PySem.W.nsIn K mainGlobals "_law_plain" = some (some (.ref (He.ga K "_law_plain"))) := He.eqO_ok (c.fact 22 rfl)
  have k11 : PySem.W.keepIn K (.ref (He.ga K "_law_plain")) = true := (c.fact 23 rfl)
  have a12 : PySem.W.nsIn K mainGlobals "_law_due" = some (some (.ref (He.ga K "_law_due"))) := He.eqO_ok (c.fact 24 rfl)
  have k12 : PySem.W.keepIn K (.ref (He.ga K "_law_due")) = true := (c.fact 25 rfl)
  have a13 : PySem.W.nsIn K mainGlobals "law" = some (some (.ref (He.ga K "law"))) := He.eqO_ok (c.fact 26 rfl)
  have k13 : PySem.W.keepIn K (.ref (He.ga K "law")) = true := (c.fact 27 rfl)
  have z0 : PySem.W.nsIn K mainGlobals "abs" = some none := He.eqO_ok (c.fact 28 rfl)
  have z1 : PySem.W.nsIn K mainGlobals "all" = some none := He.eqO_ok (c.fact 29 rfl)
  have z2 : PySem.W.nsIn K mainGlobals "int" = some none := He.eqO_ok (c.fact 30 rfl)
  have z3 : PySem.W.nsIn K mainGlobals "len" = some none := He.eqO_ok (c.fact 31 rfl)
  have z4 : PySem.W.nsIn K mainGlobals "list" = some none := He.eqO_ok (c.fact 32 rfl)
  have z5 : PySem.W.nsIn K mainGlobals "max" = some none := He.eqO_ok (c.fact 33 rfl)
  have z6 : PySem.W.nsIn K mainGlobals "range" = some none := He.eqO_ok (c.fact 34 rfl)
  have z7 : PySem.W.nsIn K mainGlobals "str" = some none := He.eqO_ok (c.fact 35 rfl)
  have ax_BadRatio : PySem.W.nsIn K mainGlobals "BadRatio" = some (some (.ref (He.ga K "BadRatio"))) := He.eqO_ok (c.fact 36 rfl)
  have ax_BadText : PySem.W.nsIn K mainGlobals "BadText" = some (some (.ref (He.ga K "BadText"))) := He.eqO_ok (c.fact 37 rfl)
  have ax_DivisionError : PySem.W.nsIn K mainGlobals "DivisionError" = some (some (.ref (He.ga K "DivisionError"))) := He.eqO_ok (c.fact 38 rfl)
  have zsup : PySem.W.nsIn K mainGlobals "super" = some none := He.eqO_ok (c.fact 39 rfl)
  have zq : PySem.W.nsIn K cStatics "thirdparty.any" = some none := He.eqO_ok (c.fact 40 rfl)
  have nx_BadRatio : PySem.W.findIn K (.ref (He.ga K "BadRatio")) "bottom" = some none := He.eqO_ok (c.fact 41 rfl)
  have em_BadText_BadRatio : PySem.W.exmOne K (.ref (He.ga K "BadRatio")) (.ref (He.ga K "BadText")) = some false := of_decide_eq_true (c.fact 42 rfl)
  have em_BadText_BadText : PySem.W.exmOne K (.ref (He.ga K "BadText")) (.ref (He.ga K "BadText")) = some true := of_decide_eq_true (c.fact 43 rfl)
  have em_BadText_DivisionError : PySem.W.exmOne K (.ref (He.ga K "DivisionError")) (.ref (He.ga K "BadText")) = some false := of_decide_eq_true (c.fact 44 rfl)
  obtain ⟨ug_DIGITS, hg_DIGITS, rg_DIGITS⟩ := glB_ok (c.fact 45 rfl)
  obtain ⟨ug_LONGEST_TEXT, hg_LONGEST_TEXT, rg_LONGEST_TEXT⟩ := glB_ok (c.fact 46 rfl)
  have e := hfa.symm.trans (PySem.W.mg_of X G a13)
  cases e
  have mz_abs := PySem.W.mg_none_of X G z0
  have mz_all := PySem.W.mg_none_of X G z1
  have mz_int := PySem.W.mg_none_of X G z2
  have mz_len := PySem.W.mg_none_of X G z3
  have mz_list := PySem.W.mg_none_of X G z4
  have mz_max := PySem.W.mg_none_of X G z5
  have mz_range := PySem.W.mg_none_of X G z6
  have mz_str := PySem.W.mg_none_of X G z7
  have mg_BadRatio := PySem.W.mg_of X G ax_BadRatio
  have mg_BadText := PySem.W.mg_of X G ax_BadText
  have mg_DivisionError := PySem.W.mg_of X G ax_DivisionError
  have mz_super := PySem.W.mg_none_of X G zsup
  obtain ⟨cc_BadRatio, cda_BadRatio, kV_BadRatio, doc_BadRatio, pm_BadRatio, an_BadRatio, ct_BadRatio, Z0_BadRatio⟩ := c.xc (P := PySem.Challenge.pw_leastcomplaint_k12_texts_of_ratios) (mg := mg) 0 (d := hdC0) rfl zq mz_super (by decide +kernel)
  have Z_BadRatio : XIn PySem.Challenge.pw_leastcomplaint_k12_texts_of_ratios K mg (He.ga K "BadRatio") (He.ma K (He.ga K "BadRatio") "__init__") cc_BadRatio cda_BadRatio "BadRatio.__init__" (fnC "__init__" "BadRatio.__init__" s_BadRatio__init__ cc_BadRatio cda_BadRatio kV_BadRatio doc_BadRatio pm_BadRatio an_BadRatio ct_BadRatio) := Z0_BadRatio
  have x_BadRatio : XK1 PySem.Challenge.pw_leastcomplaint_k12_texts_of_ratios w K mg "BadRatio" "bottom" (He.ga K "BadRatio") := xk1_mk mg_BadRatio Z_BadRatio (sf := "self") (par := "bottom") (f := "bottom") ⟨rfl, rfl, rfl, rfl, ⟨_, rfl, rfl⟩, show ∀ x ∈ (defScope s_BadRatio__init__).names, x.2 ≠ .cell by decide +kernel, rfl, rfl⟩ ⟨_, fun L => rfl⟩ rfl (by decide) nx_BadRatio (by decide) (by decide) (fun L => rfl) rfl (fun _ _ _ => .of_eq rfl)
  obtain ⟨cc_BadText, cda_BadText, kV_BadText, doc_BadText, pm_BadText, an_BadText, ct_BadText, Z0_BadText⟩ := c.xc (P := PySem.Challenge.pw_leastcomplaint_k12_texts_of_ratios) (mg := mg) 1 (d := hdC1) rfl zq mz_super (by decide +kernel)
  have Z_BadText : XIn PySem.Challenge.pw_leastcomplaint_k12_texts_of_ratios K mg (He.ga K "BadText") (He.ma K (He.ga K "BadText") "__init__") cc_BadText cda_BadText "BadText.__init__" (fnC "__init__" "BadText.__init__" s_BadText__init__ cc_BadText cda_BadText kV_BadText doc_BadText pm_BadText an_BadText ct_BadText) := Z0_BadText
  have x_BadText : XK0 PySem.Challenge.pw_leastcomplaint_k12_texts_of_ratios w K mg "BadText" (He.ga K "BadText") := xk0_mk mg_BadText Z_BadText (sf := "self") ⟨rfl, rfl, rfl, rfl, ⟨_, rfl, rfl⟩, show ∀ x ∈ (defScope s_BadText__init__).names, x.2 ≠ .cell by decide +kernel, rfl, rfl⟩ ⟨_, fun L => rfl⟩ rfl (fun _ _ => .of_eq rfl)
  have c_BadText : ∃ Cc, mg "BadText" = some (.ref Cc) := ⟨_, mg_BadText⟩
  have xm_BadText : ∀ q ∈ ([("BadRatio", false), ("BadText", true), ("DivisionError", false)] : List (Str × Bool)), XM K mg q.1 "BadText" q.2 := by
    intro q hq
    simp only [List.mem_cons, List.not_mem_nil, or_false] at hq
    rcases hq with rfl | rfl | rfl
    · exact ⟨_, _, mg_BadRatio, mg_BadText, em_BadText_BadRatio⟩
    · exact ⟨_, _, mg_BadText, mg_BadText, em_BadText_BadText⟩
    · exact ⟨_, _, mg_DivisionError, mg_BadText, em_BadText_DivisionError⟩
  have h_DIGITS : GC K mg "DIGITS" g_DIGITS := ⟨_, _, PySem.W.mg_of X G hg_DIGITS, rg_DIGITS, fun F => .str _⟩
  have h_LONGEST_TEXT : GC K mg "LONGEST_TEXT" g_LONGEST_TEXT := ⟨_, _, PySem.W.mg_of X G hg_LONGEST_TEXT, rg_LONGEST_TEXT, fun F => .int _⟩
  obtain ⟨fd0, FU0⟩ := c.def_ 0 (d := hdD0) rfl
  have F0 : FnD K "_law_pool" "_law_pool" s_law_pool [] (He.ga K "_law_pool") fd0 := FU0
  obtain ⟨fd1, FU1⟩ := c.def_ 1 (d := hdD1) rfl
  have F1 : FnD K "_law_divisor" "_law_divisor" s_law_divisor [] (He.ga K "_law_divisor") fd1 := FU1
  obtain ⟨fd2, FU2⟩ := c.def_ 2 (d := hdD2) rfl
  have F2 : FnD K "_law_ratio" "_law_ratio" s_law_ratio [] (He.ga K "_law_ratio") fd2 := FU2
  obtain ⟨fd3, FU3⟩ := c.def_ 3 (d := hdD3) rfl
  have F3 : FnD K "read_integer" "read_integer" s_read_integer [] (He.ga K "read_integer") fd3 := FU3
  obtain ⟨fd4, FU4⟩ := c.def_ 4 (d := hdD4) rfl
  have F4 : FnD K "divisor" "divisor" s_divisor [] (He.ga K "divisor") fd4 := FU4
  obtain ⟨fd5, FU5⟩ := c.def_ 5 (d := hdD5) rfl
  have F5 : FnD K "ratio" "ratio" s_ratio [.int 1] (He.ga K "ratio") fd5 := FU5
  obtain ⟨fd6, FU6⟩ := c.def_ 6 (d := hdD6) rfl
  have F6 : FnD K "ratio_text" "ratio_text" s_ratio_text [] (He.ga K "ratio_text") fd6 := FU6
  obtain ⟨fd7, FU7⟩ := c.def_ 7 (d := hdD7) rfl
  have F7 : FnD K "read_ratio" "read_ratio" s_read_ratio [] (He.ga K "read_ratio") fd7 := FU7
  obtain ⟨fd8, FU8⟩ := c.def_ 8 (d := hdD8) rfl
  have F8 : FnD K "_law_read" "_law_read" s_law_read [] (He.ga K "_law_read") fd8 := FU8
  obtain ⟨fd9, FU9⟩ := c.def_ 9 (d := hdD9) rfl
  have F9 : FnD K "_law_take" "_law_take" s_law_take [] (He.ga K "_law_take") fd9 := FU9
  obtain ⟨fd10, FU10⟩ := c.def_ 10 (d := hdD10) rfl
  have F10 : FnD K "_law_spoiled" "_law_spoiled" s_law_spoiled [] (He.ga K "_law_spoiled") fd10 := FU10
  obtain ⟨fd11, FU11⟩ := c.def_ 11 (d := hdD11) rfl
  have F11 : FnD K "_law_plain" "_law_plain" s_law_plain [] (He.ga K "_law_plain") fd11 := FU11
  obtain ⟨fd12, FU12⟩ := c.def_ 12 (d := hdD12) rfl
  have F12 : FnD K "_law_due" "_law_due" s_law_due [] (He.ga K "_law_due") fd12 := FU12
  obtain ⟨fd13, FU13⟩ := c.def_ 13 (d := hdD13) rfl
  obtain ⟨⟨oc13, od13, dV13, kV13, dc13, pm13, an13, cd13, ct13, sl13, rfl, l13, c13, hd13, _⟩, k13⟩ := FU13
  rcases hd13 with ⟨_, rfl⟩ | ⟨z, _⟩
  rotate_left
  · exact absurd rfl z
  have F13 := fun_mk (st := s_law) l13 c13 k13
  refine ⟨PySem.W.fnOf "law" "law" (defArgs s_law) (defBody s_law) (defScope s_law) .none kV13 dc13 pm13 an13 cd13 ct13, fun s v => .of_eq rfl, fun base _ _ => ?_⟩
  have K_law_pool : KnowsX PySem.Challenge.pw_leastcomplaint_k12_texts_of_ratios w K mg base 1 "_law_pool" 1 [] m_law_pool := knows0 (ok_law_pool (k := 0) F0 (by decide) mz_list) (PySem.W.mg_of X G a0) k0 (F0.bindsN fun _ _ _ _ _ _ us hl => match us, hl with | [_], _ => rfl)
  have K_law_divisor : KnowsX PySem.Challenge.pw_leastcomplaint_k12_texts_of_ratios w K mg base 1 "_law_divisor" 1 [] m_law_divisor := knows0 (ok_law_divisor (k := 0) F1 (by decide) mz_abs mz_int) (PySem.W.mg_of X G a1) k1 (F1.bindsN fun _ _ _ _ _ _ us hl => match us, hl with | [_], _ => rfl)
  have K_law_ratio : KnowsX PySem.Challenge.pw_leastcomplaint_k12_texts_of_ratios w K mg base 2 "_law_ratio" 2 [] m_law_ratio := knows0 (ok_law_ratio (k := 1) F2 (by decide) (K_law_divisor.mono (by decide))) (PySem.W.mg_of X G a2) k2 (F2.bindsN fun _ _ _ _ _ _ us hl => match us, hl with | [_, _], _ => rfl)
  have K_read_integer : KnowsX PySem.Challenge.pw_leastcomplaint_k12_texts_of_ratios w K mg base 1 "read_integer" 1 [] m_read_integer := knows0 (ok_read_integer (k := 0) F3 (by decide) mz_all mz_int h_DIGITS) (PySem.W.mg_of X G a3) k3 (F3.bindsN fun _ _ _ _ _ _ us hl => match us, hl with | [_], _ => rfl)
  have K_divisor : KnowsX PySem.Challenge.pw_leastcomplaint_k12_texts_of_ratios w K mg base 1 "divisor" 1 [] m_divisor := knows0 (ok_divisor (k := 0) F4 (by decide) mz_abs) (PySem.W.mg_of X G a4) k4 (F4.bindsN fun _ _ _ _ _ _ us hl => match us, hl with | [_], _ => rfl)
  have K_ratio : KnowsX PySem.Challenge.pw_leastcomplaint_k12_texts_of_ratios w K mg base 2 "ratio" 2 [] m_ratio := knowsD (ok_ratio (k := 1) F5 (by decide) (K_divisor.mono (by decide)) x_BadRatio) (PySem.W.mg_of X G a5) k5 (F5.binds1 2 1 (by simp) rfl fun _ _ _ _ _ _ _ us its hl hi => match us, its, hl, hi with | [_, _], [_], _, _ => ⟨_, rfl, rfl⟩) (fun _ => .nil)
  have K_ratio_d1 : KnowsX PySem.Challenge.pw_leastcomplaint_k12_texts_of_ratios w K mg base 2 "ratio" 2 [.int 1] m_ratio := knowsD (ok_ratio (k := 1) F5 (by decide) (K_divisor.mono (by decide)) x_BadRatio) (PySem.W.mg_of X G a5) k5 (F5.binds1 1 0 (by simp) rfl fun _ _ _ _ _ _ _ us its hl hi => match us, its, hl, hi with | [_], [_], _, _ => ⟨_, rfl, rfl⟩) (fun _ => (.cons (.int _) .nil))
  have K_ratio_text : KnowsX PySem.Challenge.pw_leastcomplaint_k12_texts_of_ratios w K mg base 1 "ratio_text" 1 [] m_ratio_text := knows0 (ok_ratio_text (k := 0) F6 (by decide) mz_str) (PySem.W.mg_of X G a6) k6 (F6.bindsN fun _ _ _ _ _ _ us hl => match us, hl with | [_], _ => rfl)
  have K_read_ratio : KnowsX PySem.Challenge.pw_leastcomplaint_k12_texts_of_ratios w K mg base 3 "read_ratio" 1 [] m_read_ratio := knows0 (ok_read_ratio (k := 2) F7 (by decide) mz_len (K_ratio.mono (by decide)) (K_ratio_text.mono (by decide)) (K_read_integer.mono (by decide)) x_BadText h_LONGEST_TEXT) (PySem.W.mg_of X G a7) k7 (F7.bindsN fun _ _ _ _ _ _ us hl => match us, hl with | [_], _ => rfl)
  have K_law_read : KnowsX PySem.Challenge.pw_leastcomplaint_k12_texts_of_ratios w K mg base 4 "_law_read" 1 [] m_law_read := knows0 (ok_law_read (k := 3) F8 (by decide) (K_read_ratio.mono (by decide)) c_BadText xm_BadText) (PySem.W.mg_of X G a8) k8 (F8.bindsN fun _ _ _ _ _ _ us hl => match us, hl with | [_], _ => rfl)
  have K_law_take : KnowsX PySem.Challenge.pw_leastcomplaint_k12_texts_of_ratios w K mg base 1 "_law_take" 2 [] m_law_take := knows0 (ok_law_take (k := 0) F9 (by decide) mz_int mz_len mz_max) (PySem.W.mg_of X G a9) k9 (F9.bindsN fun _ _ _ _ _ _ us hl => match us, hl with | [_, _], _ => rfl)
  have K_law_spoiled : KnowsX PySem.Challenge.pw_leastcomplaint_k12_texts_of_ratios w K mg base 2 "_law_spoiled" 2 [] m_law_spoiled := knows0 (ok_law_spoiled (k := 1) F10 (by decide) mz_int mz_len (K_law_take.mono (by decide))) (PySem.W.mg_of X G a10) k10 (F10.bindsN fun _ _ _ _ _ _ us hl => match us, hl with | [_, _], _ => rfl)
  have K_law_plain : KnowsX PySem.Challenge.pw_leastcomplaint_k12_texts_of_ratios w K mg base 1 "_law_plain" 1 [] m_law_plain := knows0 (ok_law_plain (k := 0) F11 (by decide) mz_all) (PySem.W.mg_of X G a11) k11 (F11.bindsN fun _ _ _ _ _ _ us hl => match us, hl with | [_], _ => rfl)
  have K_law_due : KnowsX PySem.Challenge.pw_leastcomplaint_k12_texts_of_ratios w K mg base 2 "_law_due" 1 [] m_law_due := knows0 (ok_law_due (k := 1) F12 (by decide) mz_all mz_int mz_len (K_law_divisor.mono (by decide)) (K_law_plain.mono (by decide))) (PySem.W.mg_of X G a12) k12 (F12.bindsN fun _ _ _ _ _ _ us hl => match us, hl with | [_], _ => rfl)
  exact ok_law (k := 4) F13 (by decide) mz_range mz_str (K_law_due.mono (by decide)) (K_law_pool.mono (by decide)) (K_law_ratio.mono (by decide)) (K_law_read.mono (by decide)) (K_law_spoiled.mono (by decide)) (K_law_take.mono (by decide)) (K_ratio_text.mono (by decide))
end K12
open PySem PySem.W PyProof.Rows
set_option maxHeartbeats 0 in
theorem PySem.Challenge.cw_leastcomplaint_k12_texts_of_ratios_holds : PySem.Challenge.rw_leastcomplaint_k12_texts_of_ratios.Holds := by
  w_on; o_law
  refine HandSHeadRun.head_any (r := OpenLaw.row PySem.Challenge.rw_leastcomplaint_k12_texts_of_ratios) (q := view (OpenLaw.row PySem.Challenge.rw_leastcomplaint_k12_texts_of_ratios).prog [21]) (H := K12.hdK) (ob := K12.hdO) (M := 2640) (loose := K12.hdN) (d := HandSHeadRun.topDef (OpenLaw.row PySem.Challenge.rw_leastcomplaint_k12_texts_of_ratios).prog 21) (kwd := []) K12.hdO_eq (by kernel_rfl) (fun s => by kernel_rfl) K12.hd_run (by kernel_rfl) (by kernel_rfl) (by kernel_rfl) (by rfl) (by first | assumption | decide +kernel) (by decide +kernel) ⟨rfl, rfl, rfl, rfl, rfl, by decide +kernel⟩ ?hw ?hc
  case hw => w_witness2
  case hc =>
    refine L2.walk_ofE (l := PySem.Challenge.rw_leastcomplaint_k12_texts_of_ratios) (n := 63) (k := 5) (x := "_law_script") (CX := L2.CX0) rfl (by decide) (by kernel_rfl) ⟨rfl, by decide, by decide⟩ ?F (fun _ _ _ _ z => z)
    intro w mg fa h Y G hmg0
    obtain ⟨K, KX, c⟩ := Y
    have hmg : mg ("law" : PySem.Str) = some (.ref fa) := by
      have e : (HandSHeadRun.topDef (OpenLaw.row PySem.Challenge.rw_leastcomplaint_k12_texts_of_ratios).prog 21).name = ("law" : PySem.Str) := by kernel_rfl
      rw [← e]
      exact hmg0
    obtain ⟨fd, hb, hF⟩ := K12.all_mk (w := w) KX G hmg c
    exact ⟨K, fd, DL.lift K fun ds m R => K12.m_law ds m R DL.NoX, KX, hb, fun H a ns hl _ hS => DL.law_start hS fun R hR => K12.main_law ns hl R hR, hF⟩


